/- YthdbijpefkapnaaGreatDoorWalk10: a part of the proof. -/
import Derived.Test.YthdbijpefkapnaaGreatDoorWalk9
import Derived.Test.YthdbijpefkapnaaGreatDoorWalk6
import Derived.Test.YthdbijpefkapnaaGreatDoorWalk12
import Derived.Test.YthdbijpefkapnaaGreatDoorWalk13
import Derived.Test.YthdbijpefkapnaaGreatDoorCore3
set_option linter.all false
set_option maxHeartbeats 40000000
open Bool renaming and_assoc → xF, eq_iff_iff → eB, false_eq_true → cg
open Function renaming comp_def → aU
open Go.Lib renaming hid → ab
open Go.RowKit renaming Hid → Bt
open Int renaming cast_ofNat_Int → bw
open List renaming all_eq_true → aC, append_assoc → aN, append_nil → aG, cons_append → ft, drop_zero → cJ, find?_cons → kK, find?_eq_none → jN, map → bx, map_append → aY, map_cons → ap, map_map → Ef, map_nil → aq, mem_append → cH, mem_append_left → k8, mem_append_right → dA, mem_cons → bz, mem_cons_of_mem → gY, mem_cons_self → dk, mem_map → aM, mem_of_find?_eq_some → nU, mem_singleton → bk, nil_append → fS, nodup_append → gX, not_mem_nil → gK, set_append_right → fb, take_succ_cons → aZ, take_zero → aP
open List.Perm renaming append_left → iq
open List.cons renaming injEq → lV
open Nat renaming le_refl → a8
open Option renaming isSome_none → Bv, isSome_some → Bu, map_eq_none_iff → vK, map_eq_some_iff → aK
open Prod renaming fst → cG
open Prod.mk renaming injEq → kH
namespace Go.Proofs.YthdbijpefkapnaaGreatDoor
open Go Go.Fen Go.Proofs.Tryz
attribute [local irreducible] aW WP aj dS jl cQ aV cV
set_option maxRecDepth 8000
variable (w0:World) (S:List aH)
inductive Sp where
 | rng (a b:Int)
 | zt
def Sp.ok:Sp→Int→Bool
 | .rng a b,n=>decide (a≤n)&&decide (n≤b)
 | .zt,n=>n==0||n==3
def Sp.fv:Sp→AV
 | .rng a b=>.fn (.func 35) [.agg [.int .i64 a,.int .i64 b]] []
 | .zt=>.fn (.func 54) [] []
def yd:List (Int × Sp × Sp):=[(17,.rng 0 3,.rng 0 1),(18,.rng 2 3,.rng 0 0),(19,.rng 1 9999,.rng 1 9999),(20,.rng 0 3,.rng 1 9999),(26,.rng 0 3,.rng 0 0),(27,.rng 0 2,.rng 0 0),(35,.zt,.rng 0 0),(38,.rng 0 9999,.rng 0 9999),(40,.rng 0 6,.rng 0 0),(41,.rng 5 6,.rng 0 0),(2,.rng 0 0,.rng 0 0),(3,.rng 0 0,.rng 0 0),(4,.rng 0 0,.rng 0 0),(5,.rng 0 0,.rng 0 0),(6,.rng 0 0,.rng 0 0),(8,.rng 0 0,.rng 0 0),(9,.rng 0 0,.rng 0 0),(10,.rng 0 0,.rng 0 0),(11,.rng 0 0,.rng 0 0),(12,.rng 0 0,.rng 0 0),(13,.rng 0 0,.rng 0 0),(15,.rng 0 0,.rng 0 0),(16,.rng 0 0,.rng 0 0),(7,.rng 0 1,.rng 0 0),(14,.rng 0 1,.rng 0 0),(42,.rng 0 1,.rng 0 0),(21,.rng 0 1,.rng 1 9999),(33,.rng 0 1,.rng 1 9999),(22,.rng 1 9999,.rng 0 0),(23,.rng 1 9999,.rng 0 0),(24,.rng 1 9999,.rng 0 0),(25,.rng 1 9999,.rng 0 0),(28,.rng 1 9999,.rng 0 0),(29,.rng 1 9999,.rng 0 0),(30,.rng 1 9999,.rng 0 0),(31,.rng 1 9999,.rng 0 0),(32,.rng 1 9999,.rng 0 0),(34,.rng 1 9999,.rng 0 0),(36,.rng 0 9999,.rng 0 1),(37,.rng 0 9999,.rng 0 1),(43,.rng 0 9999,.rng 0 1)]
def AM:List (AV × AV):=yd.map fun p=>(.int .i64 p.1,.agg [p.2.1.fv,p.2.2.fv])
theorem Ly(a b n:Int)(R:Rt)(h:R (.ret (.bool (decide (a≤n)&&decide (n≤b)))) S):aj prog w0 35 [.agg [.int .i64 a,.int .i64 b],.int .i64 n] S R:=by
 cases d:decide (a≤n)<;>rw [d] at h
 all_goals
  refine eN func35 rfl ntmps35 fun hO=>?_
  repeat' first|refine st ?_|(refine br ?_ ?_<;>intro hb)|fail
  refine fR results35 ?_
  first|exact h|(simpa using h)
theorem Qj(n:Int)(R:Rt)(h:R (.ret (.bool (n==0||n==3))) S):aj prog w0 54 [.int .i64 n] S R:=by
 cases d:n==0<;>rw [d] at h
 all_goals
  refine eN func54 rfl ntmps54 fun hO=>?_
  repeat' first|refine st ?_|(refine br ?_ ?_<;>intro hb)|fail
  refine fR results54 ?_
  first|exact h|(simpa using h)
theorem GK(R:Rt)(h:R (.ret (.tup [(Sp.rng 0 0).fv,(Sp.rng 0 1).fv,(Sp.rng 1 9999).fv,(Sp.rng 0 9999).fv])) S):aj prog w0 53 [] S R:=by
 simp only [Sp.fv] at h
 refine eN func53 rfl ntmps53 fun hO=>?_
 repeat' first|refine st ?_|(refine br ?_ ?_<;>intro hb)|fail
 refine fR results53 ?_
 exact h
theorem D7(R:Rt)(h:R (.ret (.mval AM)) S):aj prog w0 29 [] S R:=by
 have hl:=GK w0
 simp only [Sp.fv] at hl
 simp only [AM,yd,ap,aq,Sp.fv] at h
 have H:=ab h
 clear h
 refine eN func29 rfl ntmps29 fun hO=>?_
 repeat' first|refine st ?_|(refine ca ?_;apply hl)|(refine br ?_ ?_<;>intro hb)|apply cT|apply fZ|fail
 refine fR results29 ?_
 exact H.out
def m9(k:Int):Option (Sp × Sp):=(yd.find? fun p=>k==p.1).map (·.2)
def e_(a:Ac):Bool :=
 if a.kind=1 then decide (0≤iX a.n)&&(a.m==0&&(d_ a.ck a.cn&&a.text==[]))
 else if a.kind=39 then qf a
 else if a.kind=44∨a.kind=45∨a.kind=46 then (cK a).isSome
 else match m9 a.kind with
  | some (x,y)=>x.ok a.n&&(y.ok a.m&&(d_ a.ck a.cn&&a.text==[]))
  | none=>false
theorem xz(k n m:Int)(R:Rt)(h:R (.ret (.agg [.int .i64 k,.int .i64 n,.int .i64 m,.int .i64 0,.int .i64 0,.str []])) S):aj prog w0 26 [.int .i64 k,.int .i64 n,.int .i64 m] S R:=by
 refine eN func26 rfl ntmps26 fun hO=>?_
 repeat' first|refine st ?_|(refine br ?_ ?_<;>intro hb)|fail
 refine fR results26 ?_
 exact h
theorem rN(k:Int):∀ l:List (Int × Sp × Sp),(l.map fun p=>((.int .i64 p.1:AV),(AV.agg [p.2.1.fv,p.2.2.fv]))).find? (fun e=>ku (.int .i64 k) e.1)=((l.find? fun p=>k==p.1).map fun p=>((.int .i64 p.1:AV),(AV.agg [p.2.1.fv,p.2.2.fv])))
 | []=>rfl
 | p::l=>by
  rw [ap,kK,kK,rN k l]
  show (match k==p.1 with|true=>_|false=>_)=_
  cases k==p.1<;>rfl
theorem FZ{k:Int}{x y:Sp}(h:m9 k=some (x,y)):∃ c d,y=.rng c d:=by
 unfold m9 at h
 obtain⟨p,hp,e⟩:=aK.1 h
 have hall:(yd.all fun p=>match p.2.2 with | .rng _ _=>true | .zt=>false)=true:=by decide
 have:=aC.1 hall p (nU hp)
 rw [e] at this
 cases y with
 | rng c d=>exact⟨c,d,rfl⟩
 | zt=>cases this
theorem Jz(k:Int):k=1∨k=39∨(k=44∨k=45∨k=46)∨((k==1)=false∧(k==39)=false∧(k==44)=false∧(k==45)=false∧(k==46)=false):=by
 simp only [beq_eq_false_iff_ne]
 omega
theorem A2{k:Int}{x y:Sp}(h:m9 k=some (x,y)):∃ j:Int,AM.find? (fun e=>ku (.int .i64 k) e.1)=some (.int .i64 j,.agg [x.fv,y.fv]):=by
 unfold m9 at h
 obtain⟨⟨j,x',y'⟩,hp,e⟩:=aK.1 h
 cases e
 exact⟨j,by unfold AM;rw [rN,hp];rfl⟩
theorem A3{k:Int}(h:m9 k=none):AM.find? (fun e=>ku (.int .i64 k) e.1)=none:=by
 unfold m9 at h
 have:=vK.1 h
 unfold AM
 rw [rN,this];rfl
theorem Hw(n m ck cn:Int)(t:List UInt8):e_ ⟨1,n,m,ck,cn,t⟩=(decide (0≤iX n)&&(m==0&&(d_ ck cn&&t==[]))):=rfl
theorem D3(n m ck cn:Int)(t:List UInt8):e_ ⟨39,n,m,ck,cn,t⟩=qf ⟨39,n,m,ck,cn,t⟩:=rfl
theorem zU{k:Int}(hk:k=44∨k=45∨k=46)(n m ck cn:Int)(t:List UInt8):e_ ⟨k,n,m,ck,cn,t⟩=(cK ⟨k,n,m,ck,cn,t⟩).isSome:=by
 unfold e_
 rw [if_neg (by simp only;omega),if_neg (by simp only;omega),if_pos hk]
def zA(k n m ck cn:Int)(t:List UInt8):Option (Sp × Sp)→Bool
 | some (x,y)=>x.ok n&&(y.ok m&&(d_ ck cn&&t==[]))
 | none=>false
theorem zV{k:Int}(c1:(k==1)=false)(c2:(k==39)=false)(c3:(k==44)=false)(c4:(k==45)=false)(c5:(k==46)=false)(n m ck cn:Int)(t:List UInt8):e_ ⟨k,n,m,ck,cn,t⟩=zA k n m ck cn t (m9 k):=by
 simp only [beq_eq_false_iff_ne] at c1 c2 c3 c4 c5
 unfold e_
 rw [if_neg (by simp only;omega),if_neg (by simp only;omega),if_neg (by simp only;omega)]
 unfold zA
 cases m9 k<;>rfl
theorem D9(w0:World)(hM:lA w0)(hW:ly w0)(hQ:m3 w0)(S:List aH)(a:Ac)(hm:Ke a.m)(ht:a.text.length≤10000)(R:Rt)(h:R (.ret (.int .i64 (if e_ a then 0 else 200))) S):aj prog w0 11 [a.av] S R:=by
 have hpen:=fun S'=>Ax w0 S' a hm
 have hpr:=fun S'=>hQ S' a ht
 rw [tt] at hpr
 obtain⟨k,n,m,ck,cn,t⟩:=a
 have hwd:=fun S'=>PN w0 hM hW S' n
 have hac:=xz w0
 have hb0:∀ l:List UInt8,(l==l)=true:=by simp
 have hb1:∀ i:Int,(i==i)=true:=by simp
 simp only at hm ht
 rcases Jz k with rfl|rfl|hk|⟨c1,c2,c3,c4,c5⟩
 ·rw [Hw] at h
  have e0:decide (0≤iX n) = !decide (iX n<0):=by rw [eB];simp
  rw [e0] at h
  generalize iX n=w at h hwd
  unfold Ac.av
  simp only
  clear hpen hpr hQ hM hW hm ht e0
  cases hdw:decide (w<0)
  all_goals
   refine eN func11 rfl ntmps11 fun hO=>?_
   repeat' first|refine st ?_|(refine ca ?_;first|apply hwd|apply hac)|(refine br ?_ ?_<;>intro hb)|refine sd ?_|apply au|(apply aF;(· decide +kernel))|refine bd ?_ ?_|(refine cd ?_;first|apply hwd|apply hac)|fail
   all_goals refine fR results11 ?_
  all_goals
   refine(congrArg (fun z=>R (.ret (.int .i64 z)) S) (?_:_=_)).mpr h
   clear h hO hwd hac
   simp_all [d_]
 ·rw [D3] at h
  generalize qf ⟨39,n,m,ck,cn,t⟩=b at h hpen
  unfold Ac.av at hpen ⊢
  simp only at hpen ⊢
  clear hwd hac hpr hQ hM hW hm ht
  cases b
  all_goals
   refine eN func11 rfl ntmps11 fun hO=>?_
   repeat' first|refine st ?_|(refine ca ?_;apply hpen)|(refine br ?_ ?_<;>intro hb)|fail
   refine fR results11 ?_
   exact h
 ·have hk1:(k==1)=false∧(k==39)=false:=by simp only [beq_eq_false_iff_ne];omega
  rw [zU hk] at h
  unfold Mi at hpr
  generalize cK ⟨k,n,m,ck,cn,t⟩=b at h hpr
  generalize Mf b=u at hpr
  unfold Ac.av at hpr ⊢
  simp only at hpr ⊢
  clear hwd hac hpen hQ hM hW hm ht
  obtain⟨k1,k2⟩:=hk1
  cases b
  all_goals
   simp only [Bv,Bu,cg,if_true,if_false] at h hpr
   rcases hk with rfl|rfl|rfl
   all_goals
    clear k1 k2
    refine eN func11 rfl ntmps11 fun hO=>?_
    repeat' first|refine st ?_|(refine ca ?_;apply hpr)|(refine br ?_ ?_<;>intro hb)|fail
    refine fR results11 ?_
    exact h
 ·rw [zV c1 c2 c3 c4 c5] at h
  have hnu:=D7 w0
  have h2:=Ly w0
  have h3:=Qj w0
  clear hpen hpr hwd hac hQ hM hW hm ht
  unfold Ac.av
  simp only
  cases ho:m9 k with
  | none =>
   have hf:=A3 ho
   simp only [go_sem] at hf
   rw [ho] at h
   clear ho h2 h3
   refine eN func11 rfl ntmps11 fun hO=>?_
   repeat' first|refine st ?_|(refine ca ?_;apply hnu)|(refine br ?_ ?_<;>intro hb)|refine sd ?_|apply au|(apply aF;(· decide +kernel))|refine bd ?_ ?_|(refine cd ?_;apply hnu)|fail
   all_goals refine fR results11 ?_
   all_goals exact h
  | some q =>
   obtain⟨x,y⟩:=q
   obtain⟨j,hf⟩:=A2 ho
   obtain⟨c,d,rfl⟩:=FZ ho
   simp only [go_sem] at hf
   rw [ho] at h
   clear ho
   rw [show zA k n m ck cn t (some (x,.rng c d))=(x.ok n&&((Sp.rng c d).ok m&&(d_ ck cn&&t==[]))) from rfl] at h
   cases x with
   | rng a b =>
    simp only [Sp.fv] at hf
    generalize hu1:(Sp.rng a b).ok n=u1 at h
    generalize hu2:(Sp.rng c d).ok m=u2 at h
    have g1:=fun S'=>h2 S' a b n
    have g2:=fun S'=>h2 S' c d m
    rw [show (decide (a≤n)&&decide (n≤b))=u1 from hu1] at g1
    rw [show (decide (c≤m)&&decide (m≤d))=u2 from hu2] at g2
    clear hu1 hu2 h2 h3
    refine eN func11 rfl ntmps11 fun hO=>?_
    refine share ?K1 ?hK1 fun key1=>?main1
    case main1 =>
     repeat' ((fail_if_success (apply cq 4));first|refine st ?_|(refine ca ?_;apply hnu)|(refine br ?_ ?_<;>intro hb)|refine sd ?_|apply au|(apply aF;(· decide +kernel))|refine bd ?_ ?_|(refine cd ?_;apply hnu)|fail)
     all_goals
      refine gM [1000000,1,3,4,5] ?_
      simp only [eS,go_sem]
      exact key1
    case hK1 =>
     rintro env ⟨e0,e1,e3,e4,e5⟩
     repeat' first|refine st ?_|(refine ca ?_;first|apply g1|apply g2)|(refine br ?_ ?_<;>intro hb)|fail
     all_goals refine fR results11 ?_
     all_goals
      refine(congrArg (fun z=>R (.ret (.int .i64 z)) S) (?_:_=_)).mpr h
      clear h hO g1 g2 hf hnu e0 e1 e3 e4 e5
      simp_all [d_]
   | zt =>
    simp only [Sp.fv] at hf
    generalize hu1:Sp.zt.ok n=u1 at h
    generalize hu2:(Sp.rng c d).ok m=u2 at h
    have g1:=fun S'=>h3 S' n
    have g2:=fun S'=>h2 S' c d m
    rw [show (n==0||n==3)=u1 from hu1] at g1
    rw [show (decide (c≤m)&&decide (m≤d))=u2 from hu2] at g2
    clear hu1 hu2 h2 h3
    refine eN func11 rfl ntmps11 fun hO=>?_
    refine share ?K2 ?hK2 fun key1=>?main2
    case main2 =>
     repeat' ((fail_if_success (apply cq 4));first|refine st ?_|(refine ca ?_;apply hnu)|(refine br ?_ ?_<;>intro hb)|refine sd ?_|apply au|(apply aF;(· decide +kernel))|refine bd ?_ ?_|(refine cd ?_;apply hnu)|fail)
     all_goals
      refine gM [1000000,1,3,4,5] ?_
      simp only [eS,go_sem]
      exact key1
    case hK2 =>
     rintro env ⟨e0,e1,e3,e4,e5⟩
     repeat' first|refine st ?_|(refine ca ?_;first|apply g1|apply g2)|(refine br ?_ ?_<;>intro hb)|fail
     all_goals refine fR results11 ?_
     all_goals
      refine(congrArg (fun z=>R (.ret (.int .i64 z)) S) (?_:_=_)).mpr h
      clear h hO g1 g2 hf hnu e0 e1 e3 e4 e5
      simp_all [d_]
theorem CI(n a b:Int)(R:Rt)(h:R (.ret (.bool (decide (a≤n)&&decide (n≤b)))) S):aj prog w0 71 [.int .i64 n,.int .i64 a,.int .i64 b] S R:=by
 cases d:decide (a≤n)<;>rw [d] at h
 all_goals
  refine eN func71 rfl ntmps71 fun hO=>?_
  repeat' first|refine st ?_|(refine br ?_ ?_<;>intro hb)|fail
  refine fR results71 ?_
  first|exact h|(simpa using h)
theorem CJ(n:Int)(R:Rt)(h:R (.ret (.bool (decide (1≤n)&&decide (n≤9999)))) S):aj prog w0 95 [.int .i64 n] S R:=by
 have hi:=CI w0
 refine eN func95 rfl ntmps95 fun hO=>?_
 repeat' first|refine st ?_|(refine ca ?_;apply hi)|(refine br ?_ ?_<;>intro hb)|fail
 refine fR results95 ?_
 exact h
def qi(k n m:Int):Bool:=if k=1 then decide (0≤iX n)&&m==0 else match m9 k with
 | some (x,y)=>x.ok n&&y.ok m
 | none=>false
theorem CH(k n m ck cn:Int)(t:List UInt8)(R:Rt)(h:R (.ret (.bool (qi k n m))) S):aj prog w0 44 [.agg [.int .i64 k,.int .i64 n,.int .i64 m,.int .i64 ck,.int .i64 cn,.str t]] S R:=by
  have hi:=CI w0
  have hc:=CJ w0
  have hw:=fun S'=>PO w0 S' n
  refine eN func44 rfl ntmps44 fun hO=>?_
  repeat' first|refine st ?_|(refine ca ?_;first|apply hi|apply hc|apply hw)|(refine br ?_ ?_<;>intro hb)|fail
  all_goals refine fR results44 ?_
  all_goals
    refine(congrArg (fun z=>R (.ret (.bool z)) S) (?_:_=_)).mpr h
    clear h hO hi hc hw
    simp only [beq_iff_eq,beq_eq_false_iff_ne] at *
    rw [eB]
    first
    | (simp_all [qi,m9,yd,List.find?,Sp.ok];done)
    | (simp_all [qi,m9,yd,List.find?,Sp.ok]<;>omega)
    | (have hn:m9 k=none:=by
        unfold m9
        simp only [vK,jN,yd,List.forall_mem_cons]
        simp_all
       simp_all [qi])
theorem D2{k:Int}(c2:(k==39)=false)(c3:(k==44)=false)(c4:(k==45)=false)(c5:(k==46)=false)(n m ck cn:Int)(t:List UInt8):e_ ⟨k,n,m,ck,cn,t⟩=(qi k n m&&(d_ ck cn&&t==[])):=by
 by_cases c1:k=1
 ·subst c1
  rw [Hw]
  unfold qi
  rw [if_pos rfl,xF]
 ·rw [zV (beq_eq_false_iff_ne.2 c1) c2 c3 c4 c5]
  unfold qi
  rw [if_neg c1]
  cases m9 k with
  | none=>rfl
  | some q=>obtain⟨x,y⟩:=q;simp only [zA,xF]
theorem Fk(a:Ac)(ht:a.text.length≤10000)(R:Rt)(h:R (.ret (.bool (e_ a))) S):aj prog w0 23 [a.av] S R:=by
 have hpen:=fun S'=>AB w0 S' a
 have hpr:=fun S'=>IR w0 S' a ht
 rw [tt] at hpr
 obtain⟨k,n,m,ck,cn,t⟩:=a
 have hnu:=fun S'=>CH w0 S' k n m ck cn t
 simp only at ht
 by_cases c39:k=39
 ·subst c39
  rw [D3] at h
  generalize qf ⟨39,n,m,ck,cn,t⟩=b at h hpen
  unfold Ac.av at hpen ⊢
  simp only at hpen ⊢
  clear hnu hpr ht
  cases b
  all_goals
   refine eN func23 rfl ntmps23 fun hO=>?_
   repeat' first|refine st ?_|(refine ca ?_;apply hpen)|(refine br ?_ ?_<;>intro hb)|fail
   refine fR results23 ?_
   exact h
 by_cases hk:k=44∨k=45∨k=46
 ·rw [zU hk] at h
  unfold Mi at hpr
  generalize cK ⟨k,n,m,ck,cn,t⟩=b at h hpr
  generalize Mf b=u at hpr
  unfold Ac.av at hpr ⊢
  simp only at hpr ⊢
  clear hnu hpen ht
  cases b
  all_goals
   simp only [Bv,Bu,cg,if_true,if_false] at h hpr
   rcases hk with rfl|rfl|rfl
   all_goals
    clear c39
    refine eN func23 rfl ntmps23 fun hO=>?_
    repeat' first|refine st ?_|(refine ca ?_;apply hpr)|(refine br ?_ ?_<;>intro hb)|fail
    refine fR results23 ?_
    exact h
 ·have c2:(k==39)=false:=by rw [beq_eq_false_iff_ne];exact c39
  have c3:(k==44)=false:=by rw [beq_eq_false_iff_ne];omega
  have c4:(k==45)=false:=by rw [beq_eq_false_iff_ne];omega
  have c5:(k==46)=false:=by rw [beq_eq_false_iff_ne];omega
  rw [D2 c2 c3 c4 c5] at h
  generalize qi k n m=b at h hnu
  unfold Ac.av
  simp only
  clear hpen hpr ht hk c39
  refine eN func23 rfl ntmps23 fun hO=>?_
  repeat' first|refine st ?_|(refine ca ?_;apply hnu)|(refine br ?_ ?_<;>intro hb)|fail
  all_goals refine fR results23 ?_
  all_goals
   refine(congrArg (fun z=>R (.ret (.bool z)) S) (?_:_=_)).mpr h
   clear h hO hnu
   simp_all [d_]
structure Ev where
 kind:Int
 code:Int
 priv:Nat
 fin:Nat
 pars:List (List Int)
 inter:List UInt8
 text:List UInt8
 deriving DecidableEq
def Ev.av(e:Ev):AV:=.agg [.int .i64 e.kind,.int .i64 e.code,.int .u8 e.priv,.int .u8 e.fin,.sval false (e.pars.map cB),.str e.inter,.str e.text]
def jE(e:Ev):Bool:=(decide (1≤e.kind)&&decide (e.kind≤6))&&dQ e.pars
theorem xy(e:Ev)(hl:nQ e.pars)(R:Rt)(h:R (.ret (.int .i64 (if jE e then 0 else 201))) S):aj prog w0 18 [e.av] S R:=by
 have hp:=fun S'=>ry w0 S' e.pars hl
 have hh:=fun S'=>Ly w0 S' 1 6 e.kind
 obtain⟨k,c,pr,fi,l,it,t⟩:=e
 unfold jE at h
 unfold oz at hp
 unfold Ev.av
 simp only at h hp hh ⊢ hl
 generalize dQ l=b at h hp
 generalize (decide (1≤k)&&decide (k≤6))=d at h hh
 clear hl
 cases b<;>cases d
 all_goals
  refine eN func18 rfl ntmps18 fun hO=>?_
  repeat' first|refine st ?_|(refine ca ?_;first|apply hp|apply hh)|(refine br ?_ ?_<;>intro hb)|fail
  refine fR results18 ?_
  exact h
theorem wn(e:Ev)(R:Rt)(h:R (.ret (.int .i64 (if jE e then 0 else 201))) S):aj prog w0 33 [e.av] S R:=by
 have hp:=fun S'=>zw w0 S' e.pars
 have hh:=fun S'=>CI w0 S' e.kind 1 6
 obtain⟨k,c,pr,fi,l,it,t⟩:=e
 unfold jE at h
 unfold oz at hp
 unfold Ev.av
 simp only at h hp hh ⊢
 generalize dQ l=b at h hp
 generalize (decide (1≤k)&&decide (k≤6))=d at h hh
 cases b<;>cases d
 all_goals
  refine eN func33 rfl ntmps33 fun hO=>?_
  repeat' first|refine st ?_|(refine ca ?_;first|apply hp|apply hh)|(refine br ?_ ?_<;>intro hb)|fail
  refine fR results33 ?_
  exact h
theorem ju(l:List (List Int))(R:Rt)(h:R (.ret (.int .i64 (dX l 0 0))) S):aj prog w0 146 [.sval false (l.map cB)] S R:=by
 have hv:=fun S' R h=>(kO w0 S' l 0 0 R h).1
 refine eN func146 rfl ntmps146 fun hO=>?_
 repeat' first|refine st ?_|(refine ca ?_;apply hv)|(refine br ?_ ?_<;>intro hb)|fail
 refine fR results146 ?_
 exact h
theorem i_(l:List (List Int))(R:Rt)(h:R (.ret (.int .i64 (dX l 1 0))) S):aj prog w0 149 [.sval false (l.map cB)] S R:=by
 have hv:=fun S' R h=>(kO w0 S' l 1 0 R h).1
 refine eN func149 rfl ntmps149 fun hO=>?_
 repeat' first|refine st ?_|(refine ca ?_;apply hv)|(refine br ?_ ?_<;>intro hb)|fail
 refine fR results149 ?_
 exact h
def lN(l:List (List Int)):Int:=if 1<dX l 0 0 then dX l 0 0 else 1
theorem gW(l:List (List Int))(R:Rt)(h:R (.ret (.int .i64 (lN l))) S):aj prog w0 144 [.sval false (l.map cB)] S R:=by
 have hv:=ju w0
 unfold lN at h
 by_cases hc:1<dX l 0 0
 ·rw [if_pos hc] at h
  have hc1:((1:Int)<dX l 0 0)=True:=eq_true hc
  clear hc
  refine eN func144 rfl ntmps144 fun hO=>?_
  repeat' first|refine st ?_|(refine ca ?_;apply hv)|(refine br ?_ ?_<;>intro hb)|fail
  refine fR results144 ?_
  first|exact h|(simpa using h)
 ·rw [if_neg hc] at h
  have hc1:((1:Int)<dX l 0 0)=False:=eq_false hc
  clear hc
  refine eN func144 rfl ntmps144 fun hO=>?_
  repeat' first|refine st ?_|(refine ca ?_;apply hv)|(refine br ?_ ?_<;>intro hb)|fail
  refine fR results144 ?_
  first|exact h|(simpa using h)
def bS(k n m:Int):AV:=.agg [.int .i64 k,.int .i64 n,.int .i64 m,.int .i64 0,.int .i64 0,.str []]
theorem iU(k n m:Int):(gy k n m).av=bS k n m:=rfl
def uI:List (AV × AV):=vm.map fun p=>(.int .i64 p.1,p.2.av)
def plainP(m:Nat):List g9:=[.mk 3,.val 4 (bS 2 0 0),.ent (.int .i64 7) (bS 2 0 0),.val 5 (bS 3 0 0),.ent (.int .i64 8) (bS 3 0 0),.val 6 (bS 4 0 0),.ent (.int .i64 9) (bS 4 0 0),.val 7 (bS 5 0 0),.ent (.int .i64 10) (bS 5 0 0),.val 8 (bS 5 0 0),.ent (.int .i64 11) (bS 5 0 0),.val 9 (bS 5 0 0),.ent (.int .i64 12) (bS 5 0 0),
 .val 10 (bS 6 0 0),.ent (.int .i64 13) (bS 6 0 0),.val 11 (bS 7 1 0),.ent (.int .i64 14) (bS 7 1 0),.val 12 (bS 7 0 0),.ent (.int .i64 15) (bS 7 0 0),.val 13 (.mown m),.val 0 (.mown m)]
theorem J7(R:Rt)(h:R (.ret (.mval uI)) S):aj prog w0 72 [] S R:=by
 have hac:=xz w0
 have H:=ab h
 clear h
 refine eN func72 rfl ntmps72 fun hO=>?_
 repeat' ((fail_if_success (apply cq 2));first|refine st ?_|(refine ca ?_;apply hac)|(refine br ?_ ?_<;>intro hb)|fail)
 refine gi (n:=21) mixed rfl ?_
 refine JT (plainP (S.length+1)) 0 (t:=135) (kt:=3) (et:=25) rfl ?ok ?dep ?ty ?ky ?st ?fin
 case ok=>kernel_rfl
 case dep=>decide +kernel
 case ty=>simp only [go_sem]
 case ky=>simp [plainP,jg,mr,ku,sR,eX,jW,go_sem]
 case st =>
  refine⟨?s0, ?s1, ?s2, ?s3, ?s4, ?s5, ?s6, ?s7, ?s8, ?s9, ?s10, ?s11, ?s12, ?s13, ?s14, ?s15, ?s16, ?s17, ?s18, ?s19, ?s20,trivial⟩
  case s0 =>
   intro env hd
   repeat' first|refine st ?_|(refine br ?_ ?_<;>intro hb)|refine sd ?_|apply au|(apply aF;(· decide +kernel))|refine bd ?_ ?_|fail
   first|exact⟨trivial,trivial⟩|(constructor<;>first|rfl|trivial|simp)
  case s1 =>
   intro env S' hd hS
   clear hd hS
   repeat' first|refine st ?_|(refine ca ?_;apply hac)|(refine br ?_ ?_<;>intro hb)|refine sd ?_|apply au|(apply aF;(· decide +kernel))|refine bd ?_ ?_|(refine cd ?_;apply hac)|fail
   first|exact⟨trivial,trivial⟩|(constructor<;>first|rfl|trivial|simp)
  case s2 =>
   exact⟨_,_,_,_,rfl,rfl,rfl,.inr rfl,fun env hd=>⟨hd.1 0 (by decide +kernel) _ rfl _ rfl,rfl,hd.1 1 (by decide +kernel) _ rfl _ rfl⟩⟩
  case s3 =>
   intro env S' hd hS
   clear hd hS
   repeat' first|refine st ?_|(refine ca ?_;apply hac)|(refine br ?_ ?_<;>intro hb)|refine sd ?_|apply au|(apply aF;(· decide +kernel))|refine bd ?_ ?_|(refine cd ?_;apply hac)|fail
   first|exact⟨trivial,trivial⟩|(constructor<;>first|rfl|trivial|simp)
  case s4 =>
   exact⟨_,_,_,_,rfl,rfl,rfl,.inr rfl,fun env hd=>⟨hd.1 0 (by decide +kernel) _ rfl _ rfl,rfl,hd.1 3 (by decide +kernel) _ rfl _ rfl⟩⟩
  case s5 =>
   intro env S' hd hS
   clear hd hS
   repeat' first|refine st ?_|(refine ca ?_;apply hac)|(refine br ?_ ?_<;>intro hb)|refine sd ?_|apply au|(apply aF;(· decide +kernel))|refine bd ?_ ?_|(refine cd ?_;apply hac)|fail
   first|exact⟨trivial,trivial⟩|(constructor<;>first|rfl|trivial|simp)
  case s6 =>
   exact⟨_,_,_,_,rfl,rfl,rfl,.inr rfl,fun env hd=>⟨hd.1 0 (by decide +kernel) _ rfl _ rfl,rfl,hd.1 5 (by decide +kernel) _ rfl _ rfl⟩⟩
  case s7 =>
   intro env S' hd hS
   have q1:=hd.2 1 rfl
   simp only [go_sem] at q1
   clear hd
   rcases hS with rfl|⟨es,rfl⟩
   all_goals
    repeat' first|refine st ?_|(refine br ?_ ?_<;>intro hb)|refine sd ?_|apply au|(apply aF;(· decide +kernel))|refine bd ?_ ?_|fail
    first|exact⟨trivial,trivial⟩|(constructor<;>first|rfl|trivial|simp)
  case s8 =>
   exact⟨_,_,_,_,rfl,rfl,rfl,.inr rfl,fun env hd=>⟨hd.1 0 (by decide +kernel) _ rfl _ rfl,rfl,hd.1 7 (by decide +kernel) _ rfl _ rfl⟩⟩
  case s9 =>
   intro env S' hd hS
   have q1:=hd.2 1 rfl
   simp only [go_sem] at q1
   clear hd
   rcases hS with rfl|⟨es,rfl⟩
   all_goals
    repeat' first|refine st ?_|(refine br ?_ ?_<;>intro hb)|refine sd ?_|apply au|(apply aF;(· decide +kernel))|refine bd ?_ ?_|fail
    first|exact⟨trivial,trivial⟩|(constructor<;>first|rfl|trivial|simp)
  case s10 =>
   exact⟨_,_,_,_,rfl,rfl,rfl,.inr rfl,fun env hd=>⟨hd.1 0 (by decide +kernel) _ rfl _ rfl,rfl,hd.1 9 (by decide +kernel) _ rfl _ rfl⟩⟩
  case s11 =>
   intro env S' hd hS
   have q1:=hd.2 1 rfl
   simp only [go_sem] at q1
   clear hd
   rcases hS with rfl|⟨es,rfl⟩
   all_goals
    repeat' first|refine st ?_|(refine br ?_ ?_<;>intro hb)|refine sd ?_|apply au|(apply aF;(· decide +kernel))|refine bd ?_ ?_|fail
    first|exact⟨trivial,trivial⟩|(constructor<;>first|rfl|trivial|simp)
  case s12 =>
   exact⟨_,_,_,_,rfl,rfl,rfl,.inr rfl,fun env hd=>⟨hd.1 0 (by decide +kernel) _ rfl _ rfl,rfl,hd.1 11 (by decide +kernel) _ rfl _ rfl⟩⟩
  case s13 =>
   intro env S' hd hS
   clear hd hS
   repeat' first|refine st ?_|(refine ca ?_;apply hac)|(refine br ?_ ?_<;>intro hb)|refine sd ?_|apply au|(apply aF;(· decide +kernel))|refine bd ?_ ?_|(refine cd ?_;apply hac)|fail
   first|exact⟨trivial,trivial⟩|(constructor<;>first|rfl|trivial|simp)
  case s14 =>
   exact⟨_,_,_,_,rfl,rfl,rfl,.inr rfl,fun env hd=>⟨hd.1 0 (by decide +kernel) _ rfl _ rfl,rfl,hd.1 13 (by decide +kernel) _ rfl _ rfl⟩⟩
  case s15 =>
   intro env S' hd hS
   clear hd hS
   repeat' first|refine st ?_|(refine ca ?_;apply hac)|(refine br ?_ ?_<;>intro hb)|refine sd ?_|apply au|(apply aF;(· decide +kernel))|refine bd ?_ ?_|(refine cd ?_;apply hac)|fail
   first|exact⟨trivial,trivial⟩|(constructor<;>first|rfl|trivial|simp)
  case s16 =>
   exact⟨_,_,_,_,rfl,rfl,rfl,.inr rfl,fun env hd=>⟨hd.1 0 (by decide +kernel) _ rfl _ rfl,rfl,hd.1 15 (by decide +kernel) _ rfl _ rfl⟩⟩
  case s17 =>
   intro env S' hd hS
   clear hd hS
   repeat' first|refine st ?_|(refine ca ?_;apply hac)|(refine br ?_ ?_<;>intro hb)|refine sd ?_|apply au|(apply aF;(· decide +kernel))|refine bd ?_ ?_|(refine cd ?_;apply hac)|fail
   first|exact⟨trivial,trivial⟩|(constructor<;>first|rfl|trivial|simp)
  case s18 =>
   exact⟨_,_,_,_,rfl,rfl,rfl,.inr rfl,fun env hd=>⟨hd.1 0 (by decide +kernel) _ rfl _ rfl,rfl,hd.1 17 (by decide +kernel) _ rfl _ rfl⟩⟩
  case s19 =>
   intro env S' hd hS
   have q1:=hd.1 0 (by decide +kernel) _ rfl _ rfl
   simp only [g9.out,go_sem] at q1
   clear hd hS
   repeat' first|refine st ?_|(refine br ?_ ?_<;>intro hb)|refine sd ?_|apply au|(apply aF;(· decide +kernel))|refine bd ?_ ?_|fail
   first|exact⟨trivial,trivial⟩|(constructor<;>first|rfl|trivial|simp)
  case s20 =>
   intro env S' hd hS
   have q1:=hd.1 19 (by decide +kernel) _ rfl _ rfl
   simp only [g9.out,go_sem] at q1
   clear hd hS
   repeat' first|refine st ?_|(refine br ?_ ?_<;>intro hb)|refine sd ?_|apply au|(apply aF;(· decide +kernel))|refine bd ?_ ?_|fail
   first|exact⟨trivial,trivial⟩|(constructor<;>first|rfl|trivial|simp)
 case fin =>
  intro env hs hk
  have q0:=hs 20 _ rfl _ rfl
  have q5:=hk 1000000 rfl
  clear hs hk
  simp only [g9.out,go_sem] at q0 q5
  simp only [plainP,jg,ap,aq]
  repeat' first|refine st ?_|(refine br ?_ ?_<;>intro hb)|fail
  refine fR results72 ?_
  exact H.out
def lJ:List (AV × AV):=xr.map fun p=>(.int .u8 p.1,p.2.av)
def Gm:List (AV × AV):=wX.map fun p=>(p.1.av,p.2.av)
def BF(e:AV × AV):AV × AV:=(.agg [.int .u8 0,.str [],e.1],e.2)
def oL:AV × AV:=(.agg [.int .u8 0,.str [35],.int .u8 56],bS 16 0 0)
theorem oZ{e:AV × AV}(h:e∈lJ):∃ (n:Int) (k a m:Int),e=(.int .u8 n,bS k a m):=by
 unfold lJ at h
 obtain⟨⟨n,x⟩,hp,rfl⟩:=aM.1 h
 have:∃ k a m,x=gy k a m:=by
  simp only [xr,bz,gK,or_false,kH] at hp
  rcases hp with⟨_,rfl⟩|⟨_,rfl⟩|⟨_,rfl⟩|⟨_,rfl⟩|⟨_,rfl⟩|⟨_,rfl⟩|⟨_,rfl⟩|⟨_,rfl⟩|⟨_,rfl⟩|⟨_,rfl⟩|⟨_,rfl⟩
  all_goals exact⟨_,_,_,rfl⟩
 obtain⟨k,a,m,rfl⟩:=this
 exact⟨n,k,a,m,rfl⟩
theorem yJ:(lJ.map cG).Nodup:=by
 simp [lJ,xr]
theorem zC{es:List (AV × AV)}(h:∀ x∈es,∃ k a j q m,x=(.int k a,bS j q m))(n:Nat):mR n es=true:=by
 rw [eO]
 intro x hx
 obtain⟨k,a,j,q,m,rfl⟩:=h x hx
 exact⟨rfl,rfl⟩
theorem De{es:List (AV × AV)}(h:∀ x∈es,∃ a s b j q m,x=(.agg [.int .u8 a,.str s,.int .u8 b],bS j q m))(n:Nat):mR n es=true:=by
 rw [eO]
 intro x hx
 obtain⟨k,a,j,q,m,_,rfl⟩:=h x hx
 exact⟨rfl,rfl⟩
theorem jB(a:Int)(s:List UInt8)(b:Int):eX prog 140 (.agg [.int .u8 a,.str s,.int .u8 b])=true:=by
 simp [eX,jW,eC,go_sem]
theorem DW{vis rest:List (AV × AV)}{e:AV × AV}(hp:lJ.Perm (vis++e::rest)):(BF e).1∉(oL::vis.map BF).map cG:=by
 have h1:=(hp.map cG).nodup_iff.1 yJ
 rw [aY,gX] at h1
 rw [ap,Ef]
 intro hm
 rcases bz.1 hm with hm|hm
 ·have:=congrArg (fun x=>match x with|AV.agg [_,AV.str s,_]=>s|_=>[]) hm
  simp [BF,oL] at this
 ·obtain⟨x,hx,he⟩:=aM.1 hm
  have hxe:x.1=e.1:=by
   simp only [aU,BF,AV.agg.injEq,lV,true_and,and_true] at he
   exact he
  exact h1.2.2 _ (aM.2 ⟨x,hx,rfl⟩) _ (aM.2 ⟨e,dk ..,rfl⟩) hxe
theorem D8(R:Rt)(h:R (.ret (.mval Gm)) S):aj prog w0 73 [] S R:=by
 have hac:=xz w0
 have H:=ab h
 have Hac:=ab hac
 clear h
 refine eN func73 rfl ntmps73 fun hO=>?_
 repeat' ((fail_if_success (apply cq 3));first|refine st ?_|(refine ca ?_;apply hac)|(refine br ?_ ?_<;>intro hb)|fail)
 refine iA (S.length+1) ss ?_
 repeat' first|refine st ?_|(refine br ?_ ?_<;>intro hb)|fail
 refine cW (fun (p:Option (AV × AV) × List (AV × AV) × List (AV × AV)) env S'=>lJ.Perm (p.2.1++p.2.2)∧(∀ n,(aH.mit p.1 []).ltB n=true)∧env 1000000=.dfr []∧env 1=.mown S.length∧env 25=.own (S.length+2) 0 ∧
  S'=S++[.mp false (oL::p.2.1.map BF),.mp true lJ,.mit p.1 p.2.2]) (fun p=>p.2.2.length) (none,[],lJ) ?_ ?_
 ·exact⟨.refl _,fun _=>rfl,ss,ss,ss,rfl⟩
 ·rintro⟨cur,vis,rest⟩ env S' ⟨hp,hcur,e0,e1,e25,rfl⟩ IH
  have HI:=ab IH
  have HP:=ab hp
  have HO:=ab hO
  clear IH hp hac
  simp only at hcur
  repeat' first|refine st ?_|(refine br ?_ ?_<;>intro hb)|fail
  apply qG
  ·(simp only [go_sem, *];try rfl)
  ·rfl
  ·(simp only [go_sem, *];try rfl)
  ·(simp only [go_sem, *];try rfl)
  ·rfl
  ·intro hr
   have hp:=HP.out
   rw [hr,aG] at hp
   subst hr
   simp only [putA]
   refine nZ S.length (es':=oL::lJ.map BF) ss ((hp.symm.map BF).cons oL) ss ?_
   simp only [lJ,xr,ap,aq,BF,oL,Ac.av,gy,bS,bw]
   have Hac2:=Hac.out
   clear hp HI HP
   repeat' first|refine st ?_|(refine ca ?_;apply Hac2)|(refine br ?_ ?_<;>intro hb)|apply cT|apply fZ|fail
   refine fR results73 ?_
   exact H.out
  ·intro e rest' hr
   have hp:lJ.Perm (vis++e::rest'):=HP.out.trans (iq _ hr)
   have hnew:=DW hp
   obtain⟨n,k,a,m,rfl⟩:=oZ (hp.mem_iff.2 (dA _ (dk ..)))
   have hkeys:∀ x∈oL::vis.map BF,∃ a s b j q m,x=(.agg [.int .u8 a,.str s,.int .u8 b],bS j q m):=by
    intro x hx
    rcases bz.1 hx with rfl|hx
    ·exact⟨_,_,_,_,_,_,rfl⟩
    ·obtain⟨y,hy,rfl⟩:=aM.1 hx
     obtain⟨n,k,a,m,rfl⟩:=oZ (hp.mem_iff.2 (k8 _ hy))
     exact⟨_,_,_,_,_,_,rfl⟩
   have HN:=ab hnew
   have HK:=ab hkeys
   have HP2:=ab hp
   have HR:=ab hr
   have HL1:=ab (De (es:=(oL::vis.map BF)++[(.agg [.int .u8 0,.str [],.int .u8 n],bS k a m)]) (by
    intro x hx
    rcases cH.1 hx with hx|hx
    ·exact hkeys x hx
    ·simp at hx;subst hx;exact⟨_,_,_,_,_,_,rfl⟩))
   have HL2:=ab (zC (es:=rest') (by
    intro x hx
    obtain⟨n,k,a,m,rfl⟩:=oZ (hp.mem_iff.2 (dA _ (gY _ hx)))
    exact⟨_,_,_,_,_,rfl⟩))
   have HL3:=ab (zC (es:=lJ) (by
    intro x hx
    obtain⟨n,k,a,m,rfl⟩:=oZ hx
    exact⟨_,_,_,_,_,rfl⟩))
   clear hp hnew hkeys hr
   simp only [putA,bS]
   repeat' first|refine st ?_|(refine br ?_ ?_<;>intro hb)|fail
   have hka:∀ x∈oL::vis.map BF,eX prog 140 x.1=true:=by
    intro x hx
    obtain⟨a,s,b,_,_,_,rfl⟩:=HK.out x hx
    exact jB a s b
   have hkk:=jB 0 [] n
   apply GX
   ·(simp only [go_sem, *];try rfl)
   ·rfl
   ·(simp only [go_sem, *];try rfl)
   ·(simp only [go_sem, *];try rfl)
   ·(simp only [go_sem, *];try rfl)
   ·(simp only [go_sem, *];try rfl)
   ·(simp only [go_sem, *];try rfl)
   ·exact hkk
   ·exact aC.2 hka
   ·exact lm hkk hka HN.out
   ·rfl
   ·(simp only [go_sem, *];try rfl)
   clear hka hkk
   simp only [putA]
   repeat' first|refine st ?_|(refine br ?_ ?_<;>intro hb)|fail
   refine cw HO.out 3 [1,25] rfl ss ss ?_ ?_
   ·have l1:=HL1.out
    have l2:=HL2.out
    have l3:=HL3.out
    simp only [bS,ft] at l1
    (simp only [go_sem, *];try rfl)
   simp only [aZ,aP]
   refine HI.out (some (.int .u8 n,bS k a m),vis++[(.int .u8 n,bS k a m)],rest') _ _ ?_ ⟨?_, ?_, ?_, ?_, ?_, ?_⟩
   ·have:=HR.out.length_eq;simp at this ⊢;omega
   ·simpa using HP2.out
   ·intro n;rfl
   ·(simp only [go_sem, *];try rfl)
   ·(simp only [go_sem, *];try rfl)
   ·(simp only [go_sem, *];try rfl)
   ·simp [BF,bS]
def gv(f:AV):AV:=.fn (.func 139) [] [.pro [f]]
def ur:Sq→AV
 | .cnt k=>gv (.fn (.func 143) [] [.pro [.int .i64 k]])
 | .first k=>gv (.fn (.func 145) [] [.pro [.int .i64 k]])
 | .way k n=>gv (.fn (.func 147) [] [.pro [.int .i64 k,.int .i64 n,.int .i64 0,.int .i64 0,.int .i64 0,.str []]])
 | .cursor=>gv (.fn (.func 148) [] [])
 | .modes k bit=>.fn (.func 141) [] [.pro [.int .i64 k],.pro [.int .i64 bit]]
 | .ask n=>.fn (.func 150) [] [.pro [.int .i64 n]]
 | .margins=>gv (.fn (.func 151) [] [])
 | .const k=>gv (.fn (.func (if k=12 then 152 else if k=13 then 153 else 157)) [] [])
 | .pens=>.fn (.func 154) [] []
 | .shape=>gv (.fn (.func 156) [] [])
 | .askMode n=>gv (.fn (.func 158) [] [.pro [.int .i64 n]])
def EH:List (AV × AV):=qw.map fun p=>(p.1.av,ur p.2)
theorem uV{base L vis rest:List (AV × AV)}{e:AV × AV}{f:AV × AV→AV × AV}(hn:((base++L.map f).map cG).Nodup)(hp:L.Perm (vis++e::rest)):(f e).1∉(base++vis.map f).map cG:=by
 have h1:=(((hp.map f).append_left base).map cG).nodup_iff.1 hn
 rw [show base++bx f (vis++e::rest)=(base++vis.map f)++f e::rest.map f by simp,aY,ap,gX] at h1
 intro hm
 exact h1.2.2 _ hm _ (dk ..) rfl
theorem D6(g:FuncId)(cap:List AV)(hp:plainL cap=true)(hl:∀ n,Go.Fen.ltL n cap=true)(R:Rt)(h:R (.ret (gv (.fn (.func g) [] cap))) S):aj prog w0 138 [.fn (.func g) [] cap] S R:=by
 unfold gv at h
 refine eN func138 rfl ntmps138 fun hO=>?_
 repeat' first|refine st ?_|(refine br ?_ ?_<;>intro hb)|fail
 refine fR results138 ?_
 exact h
theorem Lz(k b:Int)(R:Rt)(h:R (.ret (ur (.modes k b))) S):aj prog w0 140 [.int .i64 k,.int .i64 b] S R:=by
 unfold ur at h
 refine eN func140 rfl ntmps140 fun hO=>?_
 repeat' first|refine st ?_|(refine br ?_ ?_<;>intro hb)|fail
 refine fR results140 ?_
 exact h
theorem GJ(a m:Nat)(es:List (AV × AV))(pv:Int)(it:List UInt8)(fn:Int)(v:AV)(ha:S[a]? = some (.cells [.mown m] none))(hm:S[m]? = some (.mp false es))(hall:(es.all fun x=>eX prog 140 x.1)=true)
  (hnew:es.any (fun e=>ku (.agg [.int .u8 pv,.str it,.int .u8 fn]) e.1)=false) (hlt:mR S.length (es++[(.agg [.int .u8 pv,.str it,.int .u8 fn],v)])=true) (R:Rt)
  (h:R (.ret (.tup [])) (S.set m (.mp false (es++[(.agg [.int .u8 pv,.str it,.int .u8 fn],v)])))):aj prog w0 137 [.int .u8 pv,.str it,.int .u8 fn,v,.own a 0] S R:=by
 have HN:=ab hnew
 have HA:=ab hall
 have HL:=ab hlt
 have H:=ab h
 clear hnew hall hlt h
 refine eN func137 rfl ntmps137 fun hO=>?_
 repeat' first|refine st ?_|(refine br ?_ ?_<;>intro hb)|fail
 apply GX
 ·(simp only [go_sem, *];try rfl)
 ·rfl
 ·(simp only [go_sem, *];try rfl)
 ·(simp only [go_sem, *];try rfl)
 ·(simp only [go_sem, *];try rfl)
 ·(simp only [go_sem, *];try rfl)
 ·(simp only [go_sem, *];try rfl)
 ·exact jB pv it fn
 ·exact HA.out
 ·exact HN.out
 ·rfl
 ·rfl
 simp only [putA]
 repeat' first|refine st ?_|(refine br ?_ ?_<;>intro hb)|fail
 refine JI results137 ?_ ?_ ?_
 ·exact bD.set hO HL.out
 ·simp
 ·exact H.out
def fG(g:FuncId)(e:AV × AV):AV × AV:=(.agg [.int .u8 0,.str [],e.1],gv (.fn (.func g) [] [.pro e.2.cells]))
def i7:List (AV × AV):=qQ.map fun p=>(.int .u8 p.1,.int .i64 p.2)
def gV:List (AV × AV):=oW.map fun p=>(.int .u8 p.1,.int .i64 p.2)
def ni:List (AV × AV):=y8.map fun p=>(.int .u8 p.1,bS p.2.1 p.2.2 0)
def np:List (AV × AV):=[]
def lI:List (AV × AV):=np++i7.map (fG 143)
def kY:List (AV × AV):=lI++gV.map (fG 145)
def tY:List (AV × AV):=kY++ni.map (fG 147)
theorem py(S r:List aH)(a b:aH):(S++a::r).set S.length b=S++b::r:=by
 rw [fb _ _ (a8 _),Nat.sub_self,List.set_cons_zero]
def iV(x:AV × AV):Prop:=(∃ a s b,x.1=.agg [.int .u8 a,.str s,.int .u8 b])∧∀ n,x.2.lt n=true
theorem iV.key{x:AV × AV}(h:iV x):eX prog 140 x.1=true:=by
 obtain⟨⟨a,s,b,e⟩,_⟩:=h
 rw [e];exact jB a s b
theorem iV.lts{es:List (AV × AV)}(h:∀ x∈es,iV x)(n:Nat):mR n es=true:=by
 rw [eO]
 intro x hx
 obtain⟨⟨a,s,b,e⟩,h2⟩:=h x hx
 exact⟨by rw [e];rfl,h2 n⟩
theorem fe{g:FuncId}{e:AV × AV}{n:Int}(h1:e.1=.int .u8 n)(h2:∀ m,Go.Fen.ltL m e.2.cells=true):iV (fG g e):=by
 refine⟨⟨0,[],n,by simp [fG,h1]⟩,fun m=>?_⟩
 simp only [fG,gv,AV.lt,Go.Fen.ltL,h2 m,Bool.and_self]
theorem j8{e:AV × AV}(h:e∈i7):∃ (n k:Int),e=(.int .u8 n,.int .i64 k):=by
 unfold i7 at h
 obtain⟨p,hp,rfl⟩:=aM.1 h
 exact⟨_,_,rfl⟩
theorem ji{e:AV × AV}(h:e∈gV):∃ (n k:Int),e=(.int .u8 n,.int .i64 k):=by
 unfold gV at h
 obtain⟨p,hp,rfl⟩:=aM.1 h
 exact⟨_,_,rfl⟩
theorem lZ{e:AV × AV}(h:e∈ni):∃ (n k a:Int),e=(.int .u8 n,bS k a 0):=by
 unfold ni at h
 obtain⟨p,hp,rfl⟩:=aM.1 h
 exact⟨_,_,_,rfl⟩
theorem tZ:∀ x∈np,iV x:=by intro x hx;cases hx
theorem pY:∀ x∈lI,iV x:=by
 intro x hx
 rcases cH.1 hx with hx|hx
 ·exact tZ x hx
 ·obtain⟨y,hy,rfl⟩:=aM.1 hx
  obtain⟨n,k,rfl⟩:=j8 hy
  exact fe rfl fun m=>rfl
theorem pX:∀ x∈kY,iV x:=by
 intro x hx
 rcases cH.1 hx with hx|hx
 ·exact pY x hx
 ·obtain⟨y,hy,rfl⟩:=aM.1 hx
  obtain⟨n,k,rfl⟩:=ji hy
  exact fe rfl fun m=>rfl
theorem Bl:∀ x∈tY,iV x:=by
 intro x hx
 rcases cH.1 hx with hx|hx
 ·exact pX x hx
 ·obtain⟨y,hy,rfl⟩:=aM.1 hx
  obtain⟨n,k,a,rfl⟩:=lZ hy
  exact fe rfl fun m=>rfl
theorem Db:(tY.map cG).Nodup:=by
 simp [tY,kY,lI,np,i7,qQ,gV,oW,ni,y8,fG]
theorem Dc:(kY.map cG).Nodup:=by
 have h:=Db
 unfold tY at h
 rw [aY] at h
 exact(gX.1 h).1
theorem Jp:(lI.map cG).Nodup:=by
 have h:=Dc
 unfold kY at h
 rw [aY] at h
 exact(gX.1 h).1
theorem Lx(R:Rt)(h:R (.ret (.mval EH)) S):aj prog w0 75 [] S R:=by
 have hac:=xz w0
 have H:=ab h
 have Hac:=ab hac
 clear h
 refine eN func75 rfl ntmps75 fun hO=>?_
 have HO:=ab hO
 repeat' ((fail_if_success (apply cq 6));first|refine st ?_|(refine ca ?_;apply hac)|(refine br ?_ ?_<;>intro hb)|fail)
 refine iA (S.length+2) ss ?_
 repeat' first|refine st ?_|(refine br ?_ ?_<;>intro hb)|fail
 refine cW (fun (p:Option (AV × AV) × List (AV × AV) × List (AV × AV)) env S2=>i7.Perm (p.2.1++p.2.2)∧(∀ n,(aH.mit p.1 []).ltB n=true)∧env 1000000=.dfr []∧env 1=.own (S.length+1) 0∧env 2=.fn (.func 137) [] [.own (S.length+1) 0]∧env 3=.fn (.func 138) [] []∧env 4=.fn (.func 140) [] []∧env 27=.own (S.length+3) 0 ∧
  S2=S++[.mp false (np++p.2.1.map (fG 143)),.cells [.mown S.length] none,.mp true i7,.mit p.1 p.2.2]) (fun p=>p.2.2.length) (none,[],i7) ?_ ?_
 ·exact⟨.refl _,fun _=>rfl,ss,ss,ss,ss,ss,ss,rfl⟩
 rintro⟨cur,vis,rest⟩ env S2 ⟨hp,hcur,e0,e1,e2,e3,e4,eit,rfl⟩ IH
 have HI:=ab IH
 have HP:=ab hp
 clear IH hp hac
 simp only at hcur
 repeat' first|refine st ?_|(refine br ?_ ?_<;>intro hb)|fail
 apply qG
 ·(simp only [go_sem, *];try rfl)
 ·rfl
 ·(simp only [go_sem, *];try rfl)
 ·(simp only [go_sem, *];try rfl)
 ·rfl
 rotate_left
 ·intro e rest' hr
  have hp:i7.Perm (vis++e::rest'):=HP.out.trans (iq _ hr)
  have hnew:=uV (f:=fG 143) Jp hp
  obtain⟨n,k,rfl⟩:=j8 (hp.mem_iff.2 (dA _ (dk ..)))
  have hkeys:∀ x∈np++vis.map (fG 143),iV x:=by
   intro x hx
   rcases cH.1 hx with hx|hx
   ·exact tZ x hx
   ·obtain⟨y,hy,rfl⟩:=aM.1 hx
    obtain⟨n,k,rfl⟩:=j8 (hp.mem_iff.2 (k8 _ hy))
    exact fe rfl fun m=>rfl
  have HN:=ab hnew
  have HK:=ab hkeys
  have HP2:=ab hp
  have HR:=ab hr
  have HL2:Bt (∀ n,mR n rest'=true∧mR n i7=true):=ab (by
   intro m
   constructor
   ·rw [eO]
    intro x hx
    obtain⟨n,k,rfl⟩:=j8 (hp.mem_iff.2 (dA _ (gY _ hx)))
    exact⟨rfl,rfl⟩
   ·rw [eO]
    intro x hx
    obtain⟨n,k,rfl⟩:=j8 hx
    exact⟨rfl,rfl⟩)
  clear hp hnew hkeys hr
  simp only [putA,bS]
  repeat' ((fail_if_success (apply dp 33 rfl));first|refine st ?_|(refine br ?_ ?_<;>intro hb)|fail)
  refine n8 (t:=7) (a:=S.length+4) (o:=0) ss ss ?_
  simp only [cJ]
  have hone:=fun S'=>D6 w0 S' 143 [.pro [.int .i64 k]] rfl (fun _=>rfl)
  unfold gv at hone
  repeat' ((fail_if_success (apply dp 38 rfl));first|refine st ?_|(refine ca ?_;apply hone)|(refine br ?_ ?_<;>intro hb)|fail)
  apply cZ []
  ·(simp only [go_sem, *];try rfl)
  ·rfl
  ·(simp only [go_sem, *];try rfl)
  ·rfl
  ·(simp only [go_sem, *];try rfl)
  ·(simp only [go_sem, *];try rfl)
  have hke:iV (fG 143 (.int .u8 n,.int .i64 k)):=fe rfl fun m=>rfl
  refine GJ w0 _ (S.length+1) S.length (np++vis.map (fG 143)) 0 [] n _ ?_ ?_ (aC.2 fun x hx=>(HK.out x hx).key) (lm (jB 0 [] n) (fun x hx=>(HK.out x hx).key) HN.out) (iV.lts (es:=(np++vis.map (fG 143))++[fG 143 (.int .u8 n,.int .i64 k)]) (by
   intro x hx
   rcases cH.1 hx with hx|hx
   ·exact HK.out x hx
   ·rw [bk.1 hx];exact hke) _) _ ?_
  ·(simp only [go_sem, *];try rfl)
  ·(simp only [go_sem, *];try rfl)
  rw [py]
  clear hke
  repeat' first|refine st ?_|(refine br ?_ ?_<;>intro hb)|fail
  refine cw HO.out 4 [1,2,3,4,27] rfl ss ss ?_ ?_
  ·have hke:iV (fG 143 (.int .u8 n,.int .i64 k)):=fe rfl fun m=>rfl
   have l1:=iV.lts (es:=(np++vis.map (fG 143))++[fG 143 (.int .u8 n,.int .i64 k)]) (by
    intro x hx
    rcases cH.1 hx with hx|hx
    ·exact HK.out x hx
    ·rw [bk.1 hx];exact hke)
   have l2:=fun n=>(HL2.out n).1
   have l3:=fun n=>(HL2.out n).2
   clear hke
   simp only [fG,gv,AV.cells,bS,aN] at l1 ⊢
   (simp only [go_sem, *];try rfl)
  simp only [aZ,aP]
  refine HI.out (some (.int .u8 n,.int .i64 k),vis++[(.int .u8 n,.int .i64 k)],rest') _ _ ?_ ⟨?_, ?_, ?_, ?_, ?_, ?_, ?_, ?_, ?_⟩
  ·have:=HR.out.length_eq;simp at this ⊢;omega
  ·simpa using HP2.out
  ·intro n;rfl
  ·(simp only [go_sem, *];try rfl)
  ·(simp only [go_sem, *];try rfl)
  ·(simp only [go_sem, *];try rfl)
  ·(simp only [go_sem, *];try rfl)
  ·(simp only [go_sem, *];try rfl)
  ·(simp only [go_sem, *];try rfl)
  ·simp [fG,gv,bS,AV.cells]
 intro hr
 have hp:=HP.out
 rw [hr,aG] at hp
 subst hr
 simp only [putA]
 refine nZ S.length (es':=lI) ss ((hp.symm.map (fG 143)).append_left np) ss ?_
 clear hp HI HP
 repeat' ((fail_if_success (apply cq 10));first|refine st ?_|(refine br ?_ ?_<;>intro hb)|fail)
 refine cw HO.out 2 [1,2,3,4] rfl ss ss ?_ ?_
 ·have l1:=iV.lts pY
  (simp only [go_sem, *];try rfl)
 simp only [aZ,aP]
 have Hac2:=Hac.out
 repeat' ((fail_if_success (apply cq 11));first|refine st ?_|(refine ca ?_;apply Hac2)|(refine br ?_ ?_<;>intro hb)|fail)
 refine iA (S.length+2) ss ?_
 repeat' first|refine st ?_|(refine br ?_ ?_<;>intro hb)|fail
 refine cW (fun (p:Option (AV × AV) × List (AV × AV) × List (AV × AV)) env S2=>gV.Perm (p.2.1++p.2.2)∧(∀ n,(aH.mit p.1 []).ltB n=true)∧env 1000000=.dfr []∧env 1=.own (S.length+1) 0∧env 2=.fn (.func 137) [] [.own (S.length+1) 0]∧env 3=.fn (.func 138) [] []∧env 4=.fn (.func 140) [] []∧env 42=.own (S.length+3) 0 ∧
  S2=S++[.mp false (lI++p.2.1.map (fG 145)),.cells [.mown S.length] none,.mp true gV,.mit p.1 p.2.2]) (fun p=>p.2.2.length) (none,[],gV) ?_ ?_
 ·exact⟨.refl _,fun _=>rfl,ss,ss,ss,ss,ss,ss,by simp only [aq,aG];rfl⟩
 clear e0 e1 e2 e3 e4 eit hcur
 rintro⟨cur,vis,rest⟩ env S2 ⟨hp,hcur,e0,e1,e2,e3,e4,eit,rfl⟩ IH
 have HI:=ab IH
 have HP:=ab hp
 clear IH hp
 simp only at hcur
 repeat' first|refine st ?_|(refine br ?_ ?_<;>intro hb)|fail
 apply qG
 ·(simp only [go_sem, *];try rfl)
 ·rfl
 ·(simp only [go_sem, *];try rfl)
 ·(simp only [go_sem, *];try rfl)
 ·rfl
 rotate_left
 ·intro e rest' hr
  have hp:gV.Perm (vis++e::rest'):=HP.out.trans (iq _ hr)
  have hnew:=uV (f:=fG 145) Dc hp
  obtain⟨n,k,rfl⟩:=ji (hp.mem_iff.2 (dA _ (dk ..)))
  have hkeys:∀ x∈lI++vis.map (fG 145),iV x:=by
   intro x hx
   rcases cH.1 hx with hx|hx
   ·exact pY x hx
   ·obtain⟨y,hy,rfl⟩:=aM.1 hx
    obtain⟨n,k,rfl⟩:=ji (hp.mem_iff.2 (k8 _ hy))
    exact fe rfl fun m=>rfl
  have HN:=ab hnew
  have HK:=ab hkeys
  have HP2:=ab hp
  have HR:=ab hr
  have HL2:Bt (∀ n,mR n rest'=true∧mR n gV=true):=ab (by
   intro m
   constructor
   ·rw [eO]
    intro x hx
    obtain⟨n,k,rfl⟩:=ji (hp.mem_iff.2 (dA _ (gY _ hx)))
    exact⟨rfl,rfl⟩
   ·rw [eO]
    intro x hx
    obtain⟨n,k,rfl⟩:=ji hx
    exact⟨rfl,rfl⟩)
  clear hp hnew hkeys hr
  simp only [putA,bS]
  repeat' ((fail_if_success (apply dp 48 rfl));first|refine st ?_|(refine br ?_ ?_<;>intro hb)|fail)
  refine n8 (t:=10) (a:=S.length+4) (o:=0) ss ss ?_
  simp only [cJ]
  have hone:=fun S'=>D6 w0 S' 145 [.pro [.int .i64 k]] rfl (fun _=>rfl)
  unfold gv at hone
  repeat' ((fail_if_success (apply dp 53 rfl));first|refine st ?_|(refine ca ?_;apply hone)|(refine br ?_ ?_<;>intro hb)|fail)
  apply cZ []
  ·(simp only [go_sem, *];try rfl)
  ·rfl
  ·(simp only [go_sem, *];try rfl)
  ·rfl
  ·(simp only [go_sem, *];try rfl)
  ·(simp only [go_sem, *];try rfl)
  have hke:iV (fG 145 (.int .u8 n,.int .i64 k)):=fe rfl fun m=>rfl
  refine GJ w0 _ (S.length+1) S.length (lI++vis.map (fG 145)) 0 [] n _ ?_ ?_ (aC.2 fun x hx=>(HK.out x hx).key) (lm (jB 0 [] n) (fun x hx=>(HK.out x hx).key) HN.out) (iV.lts (es:=(lI++vis.map (fG 145))++[fG 145 (.int .u8 n,.int .i64 k)]) (by
   intro x hx
   rcases cH.1 hx with hx|hx
   ·exact HK.out x hx
   ·rw [bk.1 hx];exact hke) _) _ ?_
  ·(simp only [go_sem, *];try rfl)
  ·(simp only [go_sem, *];try rfl)
  rw [py]
  clear hke
  repeat' first|refine st ?_|(refine br ?_ ?_<;>intro hb)|fail
  refine cw HO.out 4 [1,2,3,4,42] rfl ss ss ?_ ?_
  ·have hke:iV (fG 145 (.int .u8 n,.int .i64 k)):=fe rfl fun m=>rfl
   have l1:=iV.lts (es:=(lI++vis.map (fG 145))++[fG 145 (.int .u8 n,.int .i64 k)]) (by
    intro x hx
    rcases cH.1 hx with hx|hx
    ·exact HK.out x hx
    ·rw [bk.1 hx];exact hke)
   have l2:=fun n=>(HL2.out n).1
   have l3:=fun n=>(HL2.out n).2
   clear hke
   simp only [fG,gv,AV.cells,bS,aN] at l1 ⊢
   (simp only [go_sem, *];try rfl)
  simp only [aZ,aP]
  refine HI.out (some (.int .u8 n,.int .i64 k),vis++[(.int .u8 n,.int .i64 k)],rest') _ _ ?_ ⟨?_, ?_, ?_, ?_, ?_, ?_, ?_, ?_, ?_⟩
  ·have:=HR.out.length_eq;simp at this ⊢;omega
  ·simpa using HP2.out
  ·intro n;rfl
  ·(simp only [go_sem, *];try rfl)
  ·(simp only [go_sem, *];try rfl)
  ·(simp only [go_sem, *];try rfl)
  ·(simp only [go_sem, *];try rfl)
  ·(simp only [go_sem, *];try rfl)
  ·(simp only [go_sem, *];try rfl)
  ·simp [fG,gv,bS,AV.cells]
 intro hr
 have hp:=HP.out
 rw [hr,aG] at hp
 subst hr
 simp only [putA]
 refine nZ S.length (es':=kY) ss ((hp.symm.map (fG 145)).append_left lI) ss ?_
 clear hp HI HP
 repeat' ((fail_if_success (apply cq 15));first|refine st ?_|(refine br ?_ ?_<;>intro hb)|fail)
 refine cw HO.out 2 [1,2,3,4] rfl ss ss ?_ ?_
 ·have l1:=iV.lts pX
  (simp only [go_sem, *];try rfl)
 simp only [aZ,aP]
 repeat' ((fail_if_success (apply cq 16));first|refine st ?_|(refine ca ?_;apply Hac2)|(refine br ?_ ?_<;>intro hb)|fail)
 refine iA (S.length+2) ss ?_
 repeat' first|refine st ?_|(refine br ?_ ?_<;>intro hb)|fail
 refine cW (fun (p:Option (AV × AV) × List (AV × AV) × List (AV × AV)) env S2=>ni.Perm (p.2.1++p.2.2)∧(∀ n,(aH.mit p.1 []).ltB n=true)∧env 1000000=.dfr []∧env 1=.own (S.length+1) 0∧env 2=.fn (.func 137) [] [.own (S.length+1) 0]∧env 3=.fn (.func 138) [] []∧env 4=.fn (.func 140) [] []∧env 65=.own (S.length+3) 0 ∧
  S2=S++[.mp false (kY++p.2.1.map (fG 147)),.cells [.mown S.length] none,.mp true ni,.mit p.1 p.2.2]) (fun p=>p.2.2.length) (none,[],ni) ?_ ?_
 ·exact⟨.refl _,fun _=>rfl,ss,ss,ss,ss,ss,ss,by simp only [aq,aG];rfl⟩
 clear e0 e1 e2 e3 e4 eit hcur
 rintro⟨cur,vis,rest⟩ env S2 ⟨hp,hcur,e0,e1,e2,e3,e4,eit,rfl⟩ IH
 have HI:=ab IH
 have HP:=ab hp
 clear IH hp
 simp only at hcur
 repeat' first|refine st ?_|(refine br ?_ ?_<;>intro hb)|fail
 apply qG
 ·(simp only [go_sem, *];try rfl)
 ·rfl
 ·(simp only [go_sem, *];try rfl)
 ·(simp only [go_sem, *];try rfl)
 ·rfl
 rotate_left
 ·intro e rest' hr
  have hp:ni.Perm (vis++e::rest'):=HP.out.trans (iq _ hr)
  have hnew:=uV (f:=fG 147) Db hp
  obtain⟨n,k,a,rfl⟩:=lZ (hp.mem_iff.2 (dA _ (dk ..)))
  have hkeys:∀ x∈kY++vis.map (fG 147),iV x:=by
   intro x hx
   rcases cH.1 hx with hx|hx
   ·exact pX x hx
   ·obtain⟨y,hy,rfl⟩:=aM.1 hx
    obtain⟨n,k,a,rfl⟩:=lZ (hp.mem_iff.2 (k8 _ hy))
    exact fe rfl fun m=>rfl
  have HN:=ab hnew
  have HK:=ab hkeys
  have HP2:=ab hp
  have HR:=ab hr
  have HL2:Bt (∀ n,mR n rest'=true∧mR n ni=true):=ab (by
   intro m
   constructor
   ·rw [eO]
    intro x hx
    obtain⟨n,k,a,rfl⟩:=lZ (hp.mem_iff.2 (dA _ (gY _ hx)))
    exact⟨rfl,rfl⟩
   ·rw [eO]
    intro x hx
    obtain⟨n,k,a,rfl⟩:=lZ hx
    exact⟨rfl,rfl⟩)
  clear hp hnew hkeys hr
  simp only [putA,bS]
  repeat' ((fail_if_success (apply dp 71 rfl));first|refine st ?_|(refine br ?_ ?_<;>intro hb)|fail)
  refine n8 (t:=13) (a:=S.length+4) (o:=0) ss ss ?_
  simp only [cJ]
  have hone:=fun S'=>D6 w0 S' 147 [.pro [.int .i64 k,.int .i64 a,.int .i64 0,.int .i64 0,.int .i64 0,.str []]] rfl (fun _=>rfl)
  unfold gv at hone
  repeat' ((fail_if_success (apply dp 76 rfl));first|refine st ?_|(refine ca ?_;apply hone)|(refine br ?_ ?_<;>intro hb)|fail)
  apply cZ []
  ·(simp only [go_sem, *];try rfl)
  ·rfl
  ·(simp only [go_sem, *];try rfl)
  ·rfl
  ·(simp only [go_sem, *];try rfl)
  ·(simp only [go_sem, *];try rfl)
  have hke:iV (fG 147 (.int .u8 n,bS k a 0)):=fe rfl fun m=>rfl
  refine GJ w0 _ (S.length+1) S.length (kY++vis.map (fG 147)) 0 [] n _ ?_ ?_ (aC.2 fun x hx=>(HK.out x hx).key) (lm (jB 0 [] n) (fun x hx=>(HK.out x hx).key) HN.out) (iV.lts (es:=(kY++vis.map (fG 147))++[fG 147 (.int .u8 n,bS k a 0)]) (by
   intro x hx
   rcases cH.1 hx with hx|hx
   ·exact HK.out x hx
   ·rw [bk.1 hx];exact hke) _) _ ?_
  ·(simp only [go_sem, *];try rfl)
  ·(simp only [go_sem, *];try rfl)
  rw [py]
  clear hke
  repeat' first|refine st ?_|(refine br ?_ ?_<;>intro hb)|fail
  refine cw HO.out 4 [1,2,3,4,65] rfl ss ss ?_ ?_
  ·have hke:iV (fG 147 (.int .u8 n,bS k a 0)):=fe rfl fun m=>rfl
   have l1:=iV.lts (es:=(kY++vis.map (fG 147))++[fG 147 (.int .u8 n,bS k a 0)]) (by
    intro x hx
    rcases cH.1 hx with hx|hx
    ·exact HK.out x hx
    ·rw [bk.1 hx];exact hke)
   have l2:=fun n=>(HL2.out n).1
   have l3:=fun n=>(HL2.out n).2
   clear hke
   simp only [fG,gv,AV.cells,bS,aN] at l1 ⊢
   (simp only [go_sem, *];try rfl)
  simp only [aZ,aP]
  refine HI.out (some (.int .u8 n,bS k a 0),vis++[(.int .u8 n,bS k a 0)],rest') _ _ ?_ ⟨?_, ?_, ?_, ?_, ?_, ?_, ?_, ?_, ?_⟩
  ·have:=HR.out.length_eq;simp at this ⊢;omega
  ·simpa using HP2.out
  ·intro n;rfl
  ·(simp only [go_sem, *];try rfl)
  ·(simp only [go_sem, *];try rfl)
  ·(simp only [go_sem, *];try rfl)
  ·(simp only [go_sem, *];try rfl)
  ·(simp only [go_sem, *];try rfl)
  ·(simp only [go_sem, *];try rfl)
  ·simp [fG,gv,bS,AV.cells]
 intro hr
 have hp:=HP.out
 rw [hr,aG] at hp
 subst hr
 simp only [putA]
 refine nZ S.length (es':=tY) ss ((hp.symm.map (fG 147)).append_left kY) ss ?_
 clear hp HI HP
 repeat' ((fail_if_success (apply cq 20));first|refine st ?_|(refine br ?_ ?_<;>intro hb)|fail)
 refine cw HO.out 2 [1,2,3,4] rfl ss ss ?_ ?_
 ·have l1:=iV.lts Bl
  (simp only [go_sem, *];try rfl)
 simp only [aZ,aP]
 simp only [tY,kY,lI,np,i7,qQ,gV,oW,ni,y8,fG,gv,AV.cells,bS,ap,aq,fS,ft,bw]
 have hput:=GJ w0
 have hwk:=jB
 have hone:=fun S' g=>D6 w0 S' g [] rfl (fun _=>rfl)
 have heach:=Lz w0
 unfold gv at hone
 unfold ur at heach
 have hone2:=fun S' n=>D6 w0 S' 158 [.pro [.int .i64 n]] rfl (fun _=>rfl)
 unfold gv at hone2
 repeat' ((fail_if_success (apply dp 112 rfl));first|refine st ?_|(refine ca ?_;first|apply hone|apply heach|(apply hput;(iterate 5 (· simp only [go_sem, *];try rfl)))|apply hone2)|(refine br ?_ ?_<;>intro hb)|apply cT|apply fZ|fail)
 refine n8 (t:=18) (a:=S.length+2) (o:=0) ss ss ?_
 simp only [cJ]
 repeat' ((fail_if_success (apply dp 113 rfl));first|refine st ?_|(refine br ?_ ?_<;>intro hb)|fail)
 repeat' ((fail_if_success (apply dp 112 rfl));first|refine st ?_|(refine ca ?_;first|apply hone|apply heach|(apply hput;(iterate 5 (· simp only [go_sem, *];try rfl)))|apply hone2)|(refine br ?_ ?_<;>intro hb)|apply cT|apply fZ|fail)
 refine n8 (t:=18) (a:=S.length+3) (o:=0) ss ss ?_
 simp only [cJ]
 repeat' ((fail_if_success (apply dp 113 rfl));first|refine st ?_|(refine br ?_ ?_<;>intro hb)|fail)
 repeat' ((fail_if_success (apply dp 145 rfl));first|refine st ?_|(refine ca ?_;first|apply hone|apply heach|(apply hput;(iterate 5 (· simp only [go_sem, *];try rfl)))|apply hone2)|(refine br ?_ ?_<;>intro hb)|apply cT|apply fZ|fail)
 refine n8 (t:=20) (a:=S.length+4) (o:=0) ss ss ?_
 simp only [cJ]
 repeat' ((fail_if_success (apply dp 146 rfl));first|refine st ?_|(refine br ?_ ?_<;>intro hb)|fail)
 repeat' ((fail_if_success (apply dp 145 rfl));first|refine st ?_|(refine ca ?_;first|apply hone|apply heach|(apply hput;(iterate 5 (· simp only [go_sem, *];try rfl)))|apply hone2)|(refine br ?_ ?_<;>intro hb)|apply cT|apply fZ|fail)
 refine n8 (t:=20) (a:=S.length+5) (o:=0) ss ss ?_
 simp only [cJ]
 repeat' ((fail_if_success (apply dp 146 rfl));first|refine st ?_|(refine br ?_ ?_<;>intro hb)|fail)
 repeat' first|refine st ?_|(refine ca ?_;first|apply hone|apply heach|(apply hput;(iterate 5 (· simp only [go_sem, *];try rfl)))|apply hone2)|(refine br ?_ ?_<;>intro hb)|apply cT|apply fZ|fail
 refine fR results75 ?_
 exact H.out
end Go.Proofs.YthdbijpefkapnaaGreatDoor
