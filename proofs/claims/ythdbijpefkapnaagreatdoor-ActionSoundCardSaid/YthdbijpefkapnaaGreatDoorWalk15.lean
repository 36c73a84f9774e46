/- YthdbijpefkapnaaGreatDoorWalk15. Texts of the proof of a law about texts: a layer of abstract values above the worlds, the types, the walks of the functions that the law reaches, the law and its card. Own work of an AI agent. -/
import Derived.Test.YthdbijpefkapnaaGreatDoorWalk7
import Derived.Test.YthdbijpefkapnaaGreatDoorWalk0
import Derived.Test.YthdbijpefkapnaaGreatDoorWalk3
import Derived.Test.YthdbijpefkapnaaGreatDoorWalk5
import Derived.Test.YthdbijpefkapnaaGreatDoorWalk8
import Derived.Test.YthdbijpefkapnaaGreatDoorCore4
import Derived.Test.YthdbijpefkapnaaGreatDoorWalk9
import Derived.Test.YthdbijpefkapnaaGreatDoorWalk11
import Derived.Test.YthdbijpefkapnaaGreatDoorWalk12
set_option linter.all false
set_option maxHeartbeats 40000000
open And renaming intro → cD
open Bool renaming and_eq_false_iff → fm, and_eq_true → aB, and_true → dh, false_eq_true → du, not_eq_true' → ax, or_eq_true → fc, true_eq_false → lB
open Function renaming comp_def → be
open Go.IntKind renaming i64 → ar
open Go.IntWalk renaming i64_in → ay
open Go.Lib renaming hid → au
open Go.Value renaming oneCell' → zB
open Int renaming eq_ofNat_of_zero_le → i8
open List renaming all_cons → AG, all_eq_true → aF, all_map → bT, append_nil → aP, cons_append → al, drop_of_length_le → jM, drop_succ_cons → af, drop_zero → aq, find?_eq_none → ym, getD_cons_succ → fB, getD_cons_zero → fA, getElem?_append_left → aJ, getElem?_eq_getElem → aC, length → lz, length_append → ab, length_cons → ah, length_drop → zE, length_eq_one_iff → jL, length_map → bB, length_nil → aj, length_pos_iff → mq, length_take → nV, map_append → co, map_cons → aG, map_nil → aL, mem_cons_of_mem → ia, mem_cons_self → dL, mem_filter → qU, mem_map → aX, mem_of_getElem? → aI, mem_range → cB, nil_append → ap, range → bJ, set_append_left → qS, take → qR, take_add_one → pI, take_length → bQ, take_of_length_le → dW, take_succ_cons → ae, take_take → tq, take_zero → ao
open Nat renaming le_refl → bg, le_trans → fb, le_zero → tv, min_comm → yd, reduceAdd → gK, two_pow_add_eq_or_of_lt → uJ, zero_add → dw, zero_le → bI
open Option renaming bind_some → Iu, map_none → kj, map_some → dF, toList_none → pG, toList_some → iJ
open Option.some renaming inj → bp
namespace Go.Proofs.YthdbijpefkapnaaGreatDoor
open Go Go.Fen
attribute [local irreducible] ba WP az dI ie cU aR cw
set_option maxRecDepth 8000
theorem I9 (w0:World) (S:List aH) (n m:Int) (R:Rt) (h:R (.ret (eu n m).av) S):az Tryz.prog w0 210 [.int .i64 n,.int .i64 m] S R:=by
 unfold eu Ac.av at h
 refine eN Tryz.func210 rfl Tryz.ntmps210 fun hO=>?_
 repeat' first | refine st ?_ | (refine br ?_ ?_<;>intro hb) | fail
 refine fR Tryz.results210 ?_
 exact h
theorem wU (w0:World) (S:List aH) (n k c:Int) (R:Rt) (h:R (.ret (fC n k c).av) S):az Tryz.prog w0 294 [.int .i64 n,.int .i64 k,.int .i64 c] S R:=by
 unfold fC Ac.av at h
 refine eN Tryz.func294 rfl Tryz.ntmps294 fun hO=>?_
 repeat' first | refine st ?_ | (refine br ?_ ?_<;>intro hb) | fail
 refine fR Tryz.results294 ?_
 exact h
def yP:Option Ac→List AV
 | some a=>[a.av,.bool true]
 | none=>[.agg [.int .i64 0,.int .i64 0,.int .i64 0,.int .i64 0,.int .i64 0,.str []],.bool false]
def qD:Option Int→List AV
 | some n=>[.int .i64 n,.bool true]
 | none=>[.int .i64 0,.bool false]
theorem A8 (w0:World) (S:List aH) (v:Int) (R:Rt) (h:R (.ret (.tup (qD (e9 v)))) S):az Tryz.prog w0 297 [.int .i64 v] S R:=by
 unfold e9 at h
 by_cases c1:v=38
 ·subst c1
  refine eN Tryz.func297 rfl Tryz.ntmps297 fun hO=>?_
  repeat' first | refine st ?_ | (refine br ?_ ?_<;>intro hb) | fail
  refine fR Tryz.results297 ?_
  exact h
 by_cases c2:v=48
 ·subst c2
  refine eN Tryz.func297 rfl Tryz.ntmps297 fun hO=>?_
  repeat' first | refine st ?_ | (refine br ?_ ?_<;>intro hb) | fail
  refine fR Tryz.results297 ?_
  exact h
 by_cases c3:v=58
 ·subst c3
  refine eN Tryz.func297 rfl Tryz.ntmps297 fun hO=>?_
  repeat' first | refine st ?_ | (refine br ?_ ?_<;>intro hb) | fail
  refine fR Tryz.results297 ?_
  exact h
 rw [if_neg c1,if_neg c2,if_neg c3] at h
 have d1:(v==38)=false:=by simpa using c1
 have d2:(v==48)=false:=by simpa using c2
 have d3:(v==58)=false:=by simpa using c3
 clear c1 c2 c3
 refine eN Tryz.func297 rfl Tryz.ntmps297 fun hO=>?_
 repeat' first | refine st ?_ | (refine br ?_ ?_<;>intro hb) | fail
 refine fR Tryz.results297 ?_
 exact h
theorem CN {α:Type}{p:α→Bool}{l:List α}{k:Nat}{x:α} (hx:l[k]? = some x) (h:(l.take k).all p=true) (hp:p x=true):(l.take (k+1)).all p=true:=by
 rw [pI,hx]
 simp [h,hp]
theorem KP {α:Type}{p:α→Bool}{l:List α}{k:Nat}{x:α} (hx:l[k]? = some x) (hp:p x=false):l.all p=false :=
 List.all_eq_false.2 ⟨x,aI hx,by simp [hp]⟩
def w1 (n:Int):Bool:=decide (0≤n)&&decide (n≤255)
theorem GJ (w0:World) (S:List aH) (l:List Int) (hl:l.length≤1000000) (R:Rt) (h:R (.ret (.bool (AN l))) S):az Tryz.prog w0 321 [.sval false (l.map gB)] S R:=by
 refine eN Tryz.func321 rfl Tryz.ntmps321 fun hO=>?_
 repeat' first | refine st ?_ | (refine br ?_ ?_<;>intro hb) | fail
 refine dX (fun (k:Nat) env S'=>k≤l.length∧(l.take k).all w1=true∧env 1000000=.dfr []∧env 5=.sval false (l.map gB)∧env 6=.int .i64 l.length∧env 7=.int .i64 (k:Int)∧S'=S) (fun k=>l.length - k) 0 ?_ ?_
 ·exact⟨bI _,by simp,ss,ss,ss,ss,ss⟩
 ·rintro k env S' ⟨hk,hp,e0,f5,f6,f7,rfl⟩ IH
  have HI:=au IH
  have H:=au h
  clear IH h
  by_cases hlt:k<l.length
  ·obtain⟨x,hx⟩:∃ x,l[k]? = some x:=⟨_,aC hlt⟩
   have h1:decide ((k:Int)<(l.length:Int))=true:=by simpa using hlt
   have hw:ar.wrap ((k:Int)+1)=((k+1:Nat):Int):=by rw [ay _ (by omega)];omega
   have hc:gB x=.int .i64 x:=rfl
   cases hbx:w1 x with
   | false =>
    have hh:=H.out
    rw [show AN l=l.all w1 from rfl,KP hx hbx] at hh
    unfold w1 at hbx
    cases c1:decide (x<0) with
    | true =>
     clear hk hp hlt HI hl hbx
     repeat' first | refine st ?_ | (refine br ?_ ?_<;>intro hb) | fail
     refine fR Tryz.results321 ?_
     exact hh
    | false =>
     have c2:decide ((255:Int)<x)=true:=by
      simp only [fm,decide_eq_false_iff_not,decide_eq_true_eq] at hbx c1 ⊢
      omega
     clear hk hp hlt HI hl hbx
     repeat' first | refine st ?_ | (refine br ?_ ?_<;>intro hb) | fail
     refine fR Tryz.results321 ?_
     exact hh
   | true =>
    have Hn:=au (CN hx hp hbx)
    have Hlt:=au hlt
    unfold w1 at hbx
    simp only [aB,decide_eq_true_eq] at hbx
    have c1:decide (x<0)=false:=by simp only [decide_eq_false_iff_not];omega
    have c2:decide ((255:Int)<x)=false:=by simp only [decide_eq_false_iff_not];omega
    clear hk hp hlt hbx
    repeat' first | refine st ?_ | (refine br ?_ ?_<;>intro hb) | fail
    refine HI.out (k+1) _ _ (by have:=Hlt.out;omega) ⟨Hlt.out,Hn.out, ?_, ?_, ?_, ?_,rfl⟩
    all_goals (simp only [go_sem, *];try rfl)
  ·have h1:decide ((k:Int)<(l.length:Int))=false:=by simpa using hlt
   have hk':k=l.length:=by omega
   rw [hk',bQ] at hp
   have hh:=H.out
   rw [show AN l=l.all w1 from rfl,hp] at hh
   clear hlt hk hk' HI hp
   repeat' first | refine st ?_ | (refine br ?_ ?_<;>intro hb) | fail
   refine fR Tryz.results321 ?_
   exact hh
theorem J0 {x y z:Nat} (hy:y<256) (hz:z<256):(x * 65536 ||| y * 256) ||| z=x * 65536+y * 256+z:=by
 have e1:x * 65536 ||| y * 256=x * 65536+y * 256:=by
  have:=uJ (i:=16) (b:=y * 256) (by omega) x
  rw [Nat.mul_comm] at this
  exact this.symm
 rw [e1]
 have:=uJ (i:=8) (b:=z) (by omega) (x * 256+y)
 rw [show 2 ^ 8 * (x * 256+y)=x * 65536+y * 256 by omega] at this
 exact this.symm
theorem nX (w0:World) (S:List aH) (n how:Int) (l:List Int) (hl:l.length≤1000000) (R:Rt) (h:R (.ret (.tup (yP (g9 n how l)))) S):az Tryz.prog w0 298 [.int .i64 n,.int .i64 how,.sval false (l.map gB)] S R:=by
 have hwi:=fun S'=>GJ w0 S' l hl
 have hco:=wU w0
 unfold g9 at h
 cases hw:AN l with
 | false =>
  rw [hw] at h hwi
  clear hco
  refine eN Tryz.func298 rfl Tryz.ntmps298 fun hO=>?_
  repeat' first | refine st ?_ | (refine ca ?_;apply hwi) | (refine br ?_ ?_<;>intro hb) | fail
  refine fR Tryz.results298 ?_
  exact h
 | true =>
  rw [hw] at h hwi
  simp only [lB,if_false] at h
  by_cases c1:how=5∧l.length=1
  ·obtain⟨rfl,hl1⟩:=c1
   obtain⟨x,rfl⟩:=jL.1 hl1
   have hc:gB x=.int .i64 x:=rfl
   unfold fC Ac.av at hco
   clear hl1 hl
   simp only [aG,aL] at hwi ⊢
   refine eN Tryz.func298 rfl Tryz.ntmps298 fun hO=>?_
   repeat' first | refine st ?_ | (refine ca ?_;first | apply hwi | apply hco) | (refine br ?_ ?_<;>intro hb) | fail
   refine fR Tryz.results298 ?_
   exact h
  ·rw [if_neg c1] at h
   by_cases c2:how=2∧l.length=3
   ·obtain⟨rfl,hl1⟩:=c2
    match l,hl1 with
    | [x,y,z],_ =>
     rw [if_pos ⟨rfl,rfl⟩] at h
     unfold AN at hw
     simp only [AG,List.all_nil,dh,aB,decide_eq_true_eq] at hw
     obtain⟨hx,hy,hz⟩:=hw
     obtain⟨a,rfl⟩:=i8 hx.1
     obtain⟨b,rfl⟩:=i8 hy.1
     obtain⟨c,rfl⟩:=i8 hz.1
     have k1:ar.wrap ((a:Int) * 2 ^ min 16 64)=((a * 65536:Nat):Int):=by rw [show (2:Int) ^ min 16 64=65536 by decide,ay _ (by omega)];omega
     have k2:ar.wrap ((b:Int) * 2 ^ min 8 64)=((b * 256:Nat):Int):=by rw [show (2:Int) ^ min 8 64=256 by decide,ay _ (by omega)];omega
     obtain⟨o1,q1⟩:=MA (a:=a * 65536) (b:=b * 256) (by omega) (by omega)
     obtain⟨o2,_⟩:=MA (a:=a * 65536 ||| b * 256) (b:=c) q1 (by omega)
     rw [J0 (by omega) (by omega)] at o2
     have ha:gB (a:Int)=.int .i64 a:=rfl
     have hb:gB (b:Int)=.int .i64 b:=rfl
     have hc:gB (c:Int)=.int .i64 c:=rfl
     have c0:((2:Int)==5)=false:=by decide
     rw [← o1] at o2
     clear o1
     have hh:(a:Int) * 65536+(b:Int) * 256+(c:Int)=((a * 65536+b * 256+c:Nat):Int):=by omega
     simp only [fA,fB,hh] at h
     have O2:=au o2
     clear hx hy hz hl c1 q1 hh o2
     unfold fC Ac.av at hco
     simp only [aG,aL] at hwi ⊢
     refine eN Tryz.func298 rfl Tryz.ntmps298 fun hO=>?_
     repeat' first | refine st ?_ | (refine ca ?_;first | apply hwi | apply hco) | (refine br ?_ ?_<;>intro hb) | refine sd ?_ | apply aE | (apply aO;(· decide +kernel)) | refine bd ?_ ?_ | (refine cd ?_;first | apply hwi | apply hco) | fail
     refine fR Tryz.results298 ?_
     exact(congrArg (fun z=>R (.ret (.tup [.agg [.int .i64 39,.int .i64 n,.int .i64 0,.int .i64 2,.int .i64 z,.str []],.bool true])) S) O2.out).mpr h
   ·rw [if_neg c2] at h
    clear hco
    cases d1:(how==5) with
    | true =>
     have e1:how=5:=by simpa using d1
     subst e1
     have d2:((l.length:Int)==1)=false:=by simp only [beq_eq_false_iff_ne];omega
     clear c1 c2 hl
     refine eN Tryz.func298 rfl Tryz.ntmps298 fun hO=>?_
     repeat' first | refine st ?_ | (refine ca ?_;apply hwi) | (refine br ?_ ?_<;>intro hb) | fail
     refine fR Tryz.results298 ?_
     exact h
    | false =>
     cases d3:(how==2) with
     | true =>
      have e1:how=2:=by simpa using d3
      subst e1
      have d2:((l.length:Int)==3)=false:=by simp only [beq_eq_false_iff_ne];omega
      clear c1 c2 hl
      refine eN Tryz.func298 rfl Tryz.ntmps298 fun hO=>?_
      repeat' first | refine st ?_ | (refine ca ?_;apply hwi) | (refine br ?_ ?_<;>intro hb) | fail
      refine fR Tryz.results298 ?_
      exact h
     | false =>
      clear c1 c2 hl
      refine eN Tryz.func298 rfl Tryz.ntmps298 fun hO=>?_
      repeat' first | refine st ?_ | (refine ca ?_;apply hwi) | (refine br ?_ ?_<;>intro hb) | fail
      refine fR Tryz.results298 ?_
      exact h
def PR (R:Rt) (S:List aH) (o:Option Ac):Prop:=match o with
 | some a=>R (.ret (.tup [a.av,.bool true])) S
 | none=>∀ a:Ac,R (.ret (.tup [a.av,.bool false])) S
theorem Fy (w0:World) (S:List aH) (x0:Int) (R:Rt) (h:PR R S (gS [x0])):az Tryz.prog w0 296 [.sval false [.int .i64 x0]] S R:=by
 have hm:(if x0>0 then x0 else 0)=max 0 x0:=by split<;>omega
 have hof:=fun S'=>A8 w0 S' (max 0 x0)
 unfold gS at h
 simp only [fA,fB,ah,aj,dw,gK,af,aq] at h
 generalize max 0 x0=v at *
 rw [if_neg (by simp)] at h
 cases hw:e9 v with
 | none =>
  rw [hw] at h hof
  simp only [qD,PR] at h hof
  clear hw
  cases d4:(v==4)
  all_goals
   refine eN Tryz.func296 rfl Tryz.ntmps296 fun hO=>?_
   repeat' first | refine st ?_ | (refine ca ?_;apply hof) | (refine br ?_ ?_<;>intro hb) | fail
   refine fR Tryz.results296 ?_
   exact h ⟨0,0,0,0,0,[]⟩
 | some n =>
  rw [hw] at h hof
  simp only at h
  have d4:(v==4)=false:=by
   simp only [beq_eq_false_iff_ne]
   rintro rfl
   simp [e9] at hw
  rw [if_neg (by simp),if_neg (by simp)] at h
  simp only [qD,PR] at h hof
  clear hw
  refine eN Tryz.func296 rfl Tryz.ntmps296 fun hO=>?_
  repeat' first | refine st ?_ | (refine ca ?_;apply hof) | (refine br ?_ ?_<;>intro hb) | fail
  refine fR Tryz.results296 ?_
  exact h ⟨0,0,0,0,0,[]⟩
theorem Fx (w0:World) (S:List aH) (x0 x1:Int) (R:Rt) (h:PR R S (gS [x0,x1])):az Tryz.prog w0 296 [.sval false [.int .i64 x0,.int .i64 x1]] S R:=by
 have hm:(if x0>0 then x0 else 0)=max 0 x0:=by split<;>omega
 have hof:=fun S'=>A8 w0 S' (max 0 x0)
 unfold gS at h
 simp only [fA,fB,ah,aj,dw,gK,af,aq] at h
 generalize max 0 x0=v at *
 by_cases c4:v=4
 ·have hpn:=I9 w0
  rw [if_pos ⟨c4,trivial⟩] at h
  have d4:(v==4)=true:=by simpa using c4
  unfold eu Ac.av at hpn
  clear hof c4
  cases c0:decide ((0:Int)≤x1) with
  | false =>
   rw [if_neg (by simp only [decide_eq_false_iff_not] at c0;omega)] at h
   refine eN Tryz.func296 rfl Tryz.ntmps296 fun hO=>?_
   repeat' first | refine st ?_ | (refine ca ?_;apply hpn) | (refine br ?_ ?_<;>intro hb) | refine sd ?_ | apply aE | (apply aO;(· decide +kernel)) | refine bd ?_ ?_ | (refine cd ?_;apply hpn) | fail
   refine fR Tryz.results296 ?_
   exact h ⟨39,3,x1,0,0,[]⟩
  | true =>
   cases c5:decide (x1≤5) with
   | false =>
    rw [if_neg (by simp only [decide_eq_false_iff_not] at c5;omega)] at h
    refine eN Tryz.func296 rfl Tryz.ntmps296 fun hO=>?_
    repeat' first | refine st ?_ | (refine ca ?_;apply hpn) | (refine br ?_ ?_<;>intro hb) | refine sd ?_ | apply aE | (apply aO;(· decide +kernel)) | refine bd ?_ ?_ | (refine cd ?_;apply hpn) | fail
    refine fR Tryz.results296 ?_
    exact h ⟨39,3,x1,0,0,[]⟩
   | true =>
    rw [if_pos (by simp only [decide_eq_true_eq] at c0 c5;omega)] at h
    unfold PR eu Ac.av at h
    refine eN Tryz.func296 rfl Tryz.ntmps296 fun hO=>?_
    repeat' first | refine st ?_ | (refine ca ?_;apply hpn) | (refine br ?_ ?_<;>intro hb) | refine sd ?_ | apply aE | (apply aO;(· decide +kernel)) | refine bd ?_ ?_ | (refine cd ?_;apply hpn) | fail
    refine fR Tryz.results296 ?_
    exact h
 rw [if_neg (fun e=>c4 e.1)] at h
 have d4:(v==4)=false:=by simpa using c4
 clear c4
 cases hw:e9 v with
 | none =>
  rw [hw] at h hof
  simp only [qD,PR] at h hof
  clear hw
  refine eN Tryz.func296 rfl Tryz.ntmps296 fun hO=>?_
  repeat' first | refine st ?_ | (refine ca ?_;apply hof) | (refine br ?_ ?_<;>intro hb) | fail
  refine fR Tryz.results296 ?_
  exact h ⟨0,0,0,0,0,[]⟩
 | some n =>
  rw [hw] at h hof
  simp only at h
  rw [if_neg (by simp),if_neg (by simp)] at h
  simp only [qD,PR] at h hof
  clear hw
  refine eN Tryz.func296 rfl Tryz.ntmps296 fun hO=>?_
  repeat' first | refine st ?_ | (refine ca ?_;apply hof) | (refine br ?_ ?_<;>intro hb) | fail
  refine fR Tryz.results296 ?_
  exact h ⟨0,0,0,0,0,[]⟩
theorem Fw (w0:World) (S:List aH) (x0 x1 x2:Int) (R:Rt) (h:PR R S (gS [x0,x1,x2])):az Tryz.prog w0 296 [.sval false [.int .i64 x0,.int .i64 x1,.int .i64 x2]] S R:=by
 have hm:(if x0>0 then x0 else 0)=max 0 x0:=by split<;>omega
 have hof:=fun S'=>A8 w0 S' (max 0 x0)
 unfold gS at h
 simp only [fA,fB,ah,aj,dw,gK,af,aq] at h
 generalize max 0 x0=v at *
 rw [if_neg (by simp)] at h
 cases hw:e9 v with
 | none =>
  rw [hw] at h hof
  simp only [qD,PR] at h hof
  clear hw
  cases d4:(v==4)
  all_goals
   refine eN Tryz.func296 rfl Tryz.ntmps296 fun hO=>?_
   repeat' first | refine st ?_ | (refine ca ?_;apply hof) | (refine br ?_ ?_<;>intro hb) | fail
   refine fR Tryz.results296 ?_
   exact h ⟨0,0,0,0,0,[]⟩
 | some n =>
  rw [hw] at h hof
  simp only at h
  have d4:(v==4)=false:=by
   simp only [beq_eq_false_iff_ne]
   rintro rfl
   simp [e9] at hw
  rw [if_neg (by simp),if_pos (by simp)] at h
  have hsh:=fun S'=>nX w0 S' n x1 [x2] (by simp)
  cases hs:g9 n x1 [x2] with
  | none =>
   rw [hs] at h hsh
   simp only [yP,qD,PR,Ac.av,aG,aL,gB] at h hsh hof
   clear hs hw
   refine eN Tryz.func296 rfl Tryz.ntmps296 fun hO=>?_
   repeat' first | refine st ?_ | (refine ca ?_;first | apply hof | apply hsh) | (refine br ?_ ?_<;>intro hb) | refine sd ?_ | apply aE | (apply aO;(· decide +kernel)) | refine bd ?_ ?_ | (refine cd ?_;first | apply hof | apply hsh) | fail
   refine fR Tryz.results296 ?_
   exact h ⟨0,0,0,0,0,[]⟩
  | some a =>
   rw [hs] at h hsh
   obtain⟨ak,an,am,ack,acn,tx⟩:=a
   simp only [yP,qD,PR,Ac.av,aG,aL,gB] at h hsh hof
   clear hs hw
   refine eN Tryz.func296 rfl Tryz.ntmps296 fun hO=>?_
   repeat' first | refine st ?_ | (refine ca ?_;first | apply hof | apply hsh) | (refine br ?_ ?_<;>intro hb) | refine sd ?_ | apply aE | (apply aO;(· decide +kernel)) | refine bd ?_ ?_ | (refine cd ?_;first | apply hof | apply hsh) | fail
   refine fR Tryz.results296 ?_
   exact h
theorem Fv (w0:World) (S:List aH) (x0 x1 x2 x3:Int) (R:Rt) (h:PR R S (gS [x0,x1,x2,x3])):az Tryz.prog w0 296 [.sval false [.int .i64 x0,.int .i64 x1,.int .i64 x2,.int .i64 x3]] S R:=by
 have hm:(if x0>0 then x0 else 0)=max 0 x0:=by split<;>omega
 have hof:=fun S'=>A8 w0 S' (max 0 x0)
 unfold gS at h
 simp only [fA,fB,ah,aj,dw,gK,af,aq] at h
 generalize max 0 x0=v at *
 rw [if_neg (by simp)] at h
 cases hw:e9 v with
 | none =>
  rw [hw] at h hof
  simp only [qD,PR] at h hof
  clear hw
  cases d4:(v==4)
  all_goals
   refine eN Tryz.func296 rfl Tryz.ntmps296 fun hO=>?_
   repeat' first | refine st ?_ | (refine ca ?_;apply hof) | (refine br ?_ ?_<;>intro hb) | fail
   refine fR Tryz.results296 ?_
   exact h ⟨0,0,0,0,0,[]⟩
 | some n =>
  rw [hw] at h hof
  simp only at h
  have d4:(v==4)=false:=by
   simp only [beq_eq_false_iff_ne]
   rintro rfl
   simp [e9] at hw
  rw [if_neg (by simp),if_pos (by simp)] at h
  have hsh:=fun S'=>nX w0 S' n x1 [x2,x3] (by simp)
  cases hs:g9 n x1 [x2,x3] with
  | none =>
   rw [hs] at h hsh
   simp only [yP,qD,PR,Ac.av,aG,aL,gB] at h hsh hof
   clear hs hw
   refine eN Tryz.func296 rfl Tryz.ntmps296 fun hO=>?_
   repeat' first | refine st ?_ | (refine ca ?_;first | apply hof | apply hsh) | (refine br ?_ ?_<;>intro hb) | refine sd ?_ | apply aE | (apply aO;(· decide +kernel)) | refine bd ?_ ?_ | (refine cd ?_;first | apply hof | apply hsh) | fail
   refine fR Tryz.results296 ?_
   exact h ⟨0,0,0,0,0,[]⟩
  | some a =>
   rw [hs] at h hsh
   obtain⟨ak,an,am,ack,acn,tx⟩:=a
   simp only [yP,qD,PR,Ac.av,aG,aL,gB] at h hsh hof
   clear hs hw
   refine eN Tryz.func296 rfl Tryz.ntmps296 fun hO=>?_
   repeat' first | refine st ?_ | (refine ca ?_;first | apply hof | apply hsh) | (refine br ?_ ?_<;>intro hb) | refine sd ?_ | apply aE | (apply aO;(· decide +kernel)) | refine bd ?_ ?_ | (refine cd ?_;first | apply hof | apply hsh) | fail
   refine fR Tryz.results296 ?_
   exact h
theorem Fu (w0:World) (S:List aH) (x0 x1 x2 x3 x4:Int) (R:Rt) (h:PR R S (gS [x0,x1,x2,x3,x4])):az Tryz.prog w0 296 [.sval false [.int .i64 x0,.int .i64 x1,.int .i64 x2,.int .i64 x3,.int .i64 x4]] S R:=by
 have hm:(if x0>0 then x0 else 0)=max 0 x0:=by split<;>omega
 have hof:=fun S'=>A8 w0 S' (max 0 x0)
 unfold gS at h
 simp only [fA,fB,ah,aj,dw,gK,af,aq] at h
 generalize max 0 x0=v at *
 rw [if_neg (by simp)] at h
 cases hw:e9 v with
 | none =>
  rw [hw] at h hof
  simp only [qD,PR] at h hof
  clear hw
  cases d4:(v==4)
  all_goals
   refine eN Tryz.func296 rfl Tryz.ntmps296 fun hO=>?_
   repeat' first | refine st ?_ | (refine ca ?_;apply hof) | (refine br ?_ ?_<;>intro hb) | fail
   refine fR Tryz.results296 ?_
   exact h ⟨0,0,0,0,0,[]⟩
 | some n =>
  rw [hw] at h hof
  simp only at h
  have d4:(v==4)=false:=by
   simp only [beq_eq_false_iff_ne]
   rintro rfl
   simp [e9] at hw
  rw [if_neg (by simp),if_pos (by simp)] at h
  have hsh:=fun S'=>nX w0 S' n x1 [x2,x3,x4] (by simp)
  cases hs:g9 n x1 [x2,x3,x4] with
  | none =>
   rw [hs] at h hsh
   simp only [yP,qD,PR,Ac.av,aG,aL,gB] at h hsh hof
   clear hs hw
   refine eN Tryz.func296 rfl Tryz.ntmps296 fun hO=>?_
   repeat' first | refine st ?_ | (refine ca ?_;first | apply hof | apply hsh) | (refine br ?_ ?_<;>intro hb) | refine sd ?_ | apply aE | (apply aO;(· decide +kernel)) | refine bd ?_ ?_ | (refine cd ?_;first | apply hof | apply hsh) | fail
   refine fR Tryz.results296 ?_
   exact h ⟨0,0,0,0,0,[]⟩
  | some a =>
   rw [hs] at h hsh
   obtain⟨ak,an,am,ack,acn,tx⟩:=a
   simp only [yP,qD,PR,Ac.av,aG,aL,gB] at h hsh hof
   clear hs hw
   refine eN Tryz.func296 rfl Tryz.ntmps296 fun hO=>?_
   repeat' first | refine st ?_ | (refine ca ?_;first | apply hof | apply hsh) | (refine br ?_ ?_<;>intro hb) | refine sd ?_ | apply aE | (apply aO;(· decide +kernel)) | refine bd ?_ ?_ | (refine cd ?_;first | apply hof | apply hsh) | fail
   refine fR Tryz.results296 ?_
   exact h
theorem Ft (w0:World) (S:List aH) (x0 x1 x2 x3 x4 x5:Int) (R:Rt) (h:PR R S (gS [x0,x1,x2,x3,x4,x5])):az Tryz.prog w0 296 [.sval false [.int .i64 x0,.int .i64 x1,.int .i64 x2,.int .i64 x3,.int .i64 x4,.int .i64 x5]] S R:=by
 have hm:(if x0>0 then x0 else 0)=max 0 x0:=by split<;>omega
 have hof:=fun S'=>A8 w0 S' (max 0 x0)
 unfold gS at h
 simp only [fA,fB,ah,aj,dw,gK,af,aq] at h
 generalize max 0 x0=v at *
 rw [if_neg (by simp)] at h
 cases hw:e9 v with
 | none =>
  rw [hw] at h hof
  simp only [qD,PR] at h hof
  clear hw
  cases d4:(v==4)
  all_goals
   refine eN Tryz.func296 rfl Tryz.ntmps296 fun hO=>?_
   repeat' first | refine st ?_ | (refine ca ?_;apply hof) | (refine br ?_ ?_<;>intro hb) | fail
   refine fR Tryz.results296 ?_
   exact h ⟨0,0,0,0,0,[]⟩
 | some n =>
  rw [hw] at h hof
  simp only at h
  have d4:(v==4)=false:=by
   simp only [beq_eq_false_iff_ne]
   rintro rfl
   simp [e9] at hw
  cases d2:(x1==2) with
  | true =>
   have e2:x1=2:=by simpa using d2
   rw [if_pos ⟨trivial,e2⟩] at h
   clear e2
   have hsh:=fun S'=>nX w0 S' n 2 [x3,x4,x5] (by simp)
   cases hs:g9 n 2 [x3,x4,x5] with
   | none =>
    rw [hs] at h hsh
    simp only [yP,qD,PR,Ac.av,aG,aL,gB] at h hsh hof
    clear hs hw
    refine eN Tryz.func296 rfl Tryz.ntmps296 fun hO=>?_
    repeat' first | refine st ?_ | (refine ca ?_;first | apply hof | apply hsh) | (refine br ?_ ?_<;>intro hb) | fail
    refine fR Tryz.results296 ?_
    exact h ⟨0,0,0,0,0,[]⟩
   | some a =>
    rw [hs] at h hsh
    obtain⟨ak,an,am,ack,acn,tx⟩:=a
    simp only [yP,qD,PR,Ac.av,aG,aL,gB] at h hsh hof
    clear hs hw
    refine eN Tryz.func296 rfl Tryz.ntmps296 fun hO=>?_
    repeat' first | refine st ?_ | (refine ca ?_;first | apply hof | apply hsh) | (refine br ?_ ?_<;>intro hb) | fail
    refine fR Tryz.results296 ?_
    exact h
  | false =>
   have e2:x1≠2:=by simpa using d2
   rw [if_neg (fun e=>e2 e.2),if_pos (by simp)] at h
   clear e2
   have hsh:=fun S'=>nX w0 S' n x1 [x2,x3,x4,x5] (by simp)
   cases hs:g9 n x1 [x2,x3,x4,x5] with
   | none =>
    rw [hs] at h hsh
    simp only [yP,qD,PR,Ac.av,aG,aL,gB] at h hsh hof
    clear hs hw
    refine eN Tryz.func296 rfl Tryz.ntmps296 fun hO=>?_
    repeat' first | refine st ?_ | (refine ca ?_;first | apply hof | apply hsh) | (refine br ?_ ?_<;>intro hb) | refine sd ?_ | apply aE | (apply aO;(· decide +kernel)) | refine bd ?_ ?_ | (refine cd ?_;first | apply hof | apply hsh) | fail
    refine fR Tryz.results296 ?_
    exact h ⟨0,0,0,0,0,[]⟩
   | some a =>
    rw [hs] at h hsh
    obtain⟨ak,an,am,ack,acn,tx⟩:=a
    simp only [yP,qD,PR,Ac.av,aG,aL,gB] at h hsh hof
    clear hs hw
    refine eN Tryz.func296 rfl Tryz.ntmps296 fun hO=>?_
    repeat' first | refine st ?_ | (refine ca ?_;first | apply hof | apply hsh) | (refine br ?_ ?_<;>intro hb) | refine sd ?_ | apply aE | (apply aO;(· decide +kernel)) | refine bd ?_ ?_ | (refine cd ?_;first | apply hof | apply hsh) | fail
    refine fR Tryz.results296 ?_
    exact h
def l6 (w0:World):Prop:=gl w0 3=.pro [.int .i64 1,.int .i64 1,.int .i64 22,.int .i64 2,.int .i64 2,.int .i64 22,.int .i64 4,.int .i64 3,.int .i64 23,.int .i64 8,.int .i64 5,.int .i64 25,.int .i64 16,.int .i64 7,.int .i64 27,.int .i64 32,.int .i64 8,.int .i64 28,.int .i64 64,.int .i64 9,.int .i64 29,.int .i64 128,.int .i64 53,.int .i64 55]
def rU:List (Int × Ac):=[(0,eu 0 0),(4,eu 3 1),(21,eu 3 2),(24,eu 3 0),(39,eu 4 0),(49,eu 5 0),(59,eu 6 0),(1,eu 1 1),(22,eu 2 3),(2,eu 1 2),(3,eu 1 4),(23,eu 2 4),(5,eu 1 8),(25,eu 2 8),(7,eu 1 16),(27,eu 2 16),(8,eu 1 32),(28,eu 2 32),(9,eu 1 64),(29,eu 2 64),(53,eu 1 128),(55,eu 2 128),(6,eu 1 8),(30,fC 4 1 0),(90,fC 4 1 8),(40,fC 5 1 0),(100,fC 5 1 8),(31,fC 4 1 1),(91,fC 4 1 9),(41,fC 5 1 1),(101,fC 5 1 9),(32,fC 4 1 2),(92,fC 4 1 10),(42,fC 5 1 2),(102,fC 5 1 10),(33,fC 4 1 3),(93,fC 4 1 11),(43,fC 5 1 3),(103,fC 5 1 11),(34,fC 4 1 4),(94,fC 4 1 12),(44,fC 5 1 4),(104,fC 5 1 12),(35,fC 4 1 5),(95,fC 4 1 13),(45,fC 5 1 5),(105,fC 5 1 13),(36,fC 4 1 6),(96,fC 4 1 14),(46,fC 5 1 6),(106,fC 5 1 14),(37,fC 4 1 7),(97,fC 4 1 15),(47,fC 5 1 7),(107,fC 5 1 15)]
def iw:List (AV × AV):=rU.map fun p=>(.int .i64 p.1,p.2.av)
theorem Fr (w0:World) (hA:l6 w0) (S:List aH) (R:Rt) (h:R (.ret (.mval iw)) S):az Tryz.prog w0 255 [] S R:=by
 have hpn:=I9 w0
 have hco:=wU w0
 have H:=au h
 clear h
 unfold l6 at hA
 simp only [eu,Ac.av] at hpn
 simp only [fC,Ac.av] at hco
 refine eN Tryz.func255 rfl Tryz.ntmps255 fun hO=>?_
 iterate 16
  repeat' first | refine st ?_ | (refine ca ?_;first | apply hpn | apply hco) | (refine br ?_ ?_<;>intro hb) | apply cP | apply eg | refine sd ?_ | refine sx ?_ | apply aE | (apply aO;(· decide +kernel)) | refine bd ?_ ?_ | (refine cd ?_;first | apply hpn | apply hco) | fail
  apply Cu
  iterate 9 (· rfl)
  iterate 2 (· decide)
  iterate 3 (· simp only [go_sem, *];try rfl)
  try simp only [go_sem]
 repeat' first | refine st ?_ | (refine ca ?_;first | apply hpn | apply hco) | (refine br ?_ ?_<;>intro hb) | apply cP | apply eg | refine sd ?_ | refine sx ?_ | apply aE | (apply aO;(· decide +kernel)) | refine bd ?_ ?_ | (refine cd ?_;first | apply hpn | apply hco) | fail
 refine fR Tryz.results255 ?_
 exact H.out
theorem mG (l:List (List Int)):(gF l).length≤l.length:=by
 induction l with
 | nil=>simp [gF]
 | cons s r ih =>
  match s with
  | []=>simp [gF]
  | [n]=>simp only [gF,ah];omega
  | _::_::_=>simp [gF]
theorem rJ {s:List Int} (r:List (List Int)) (h:s.length≠1):gF (s::r)=[]:=by
 match s,h with
 | [],_=>rfl
 | _::_::_,_=>rfl
theorem kP (w0:World) (S:List aH) (l:List (List Int)) (hl:l.length≤1000000) (R:Rt) (h:R (.ret (.sval false ((gF l).map gB))) S):az Tryz.prog w0 295 [.sval false (l.map dA)] S R:=by
 refine eN Tryz.func295 rfl Tryz.ntmps295 fun hO=>?_
 repeat' first | refine st ?_ | (refine br ?_ ?_<;>intro hb) | fail
 have HO:=au hO
 clear hO
 refine nW (t:=2) 3 1 ss (by decide) ?_
 try simp only [go_sem, *]
 refine dX (fun (p:Nat × List Int) env S'=>p.1≤l.length∧gF l=p.2++gF (l.drop p.1)∧p.2.length=p.1∧env 1000000=.dfr []∧env 2=.sown S.length p.1 p.1∧env 5=.sval false (l.map dA)∧env 6=.int .i64 l.length∧env 7=.int .i64 (p.1:Int) ∧
  S'=S++[.arr 3 1 0 p.1 (p.2.map gB)]) (fun p=>l.length - p.1) (0,[]) ?_ ?_
 ·exact⟨bI _,rfl,rfl,ss,ss,ss,ss,ss,rfl⟩
 ·rintro⟨k,vs⟩ env S' ⟨hk,hv,hvl,e0,f2,f5,f6,f7,rfl⟩ IH
  have HI:=au IH
  have H:=au h
  clear IH h
  simp only at hk hv hvl f2 f7 ⊢
  have hlm:(vs.map gB).length=k:=by simp [hvl]
  by_cases hlt:k<l.length
  ·obtain⟨x,hx⟩:∃ x,l[k]? = some x:=⟨_,aC hlt⟩
   have hd:l.drop k=x::l.drop (k+1):=by
    rw [List.drop_eq_getElem_cons hlt]
    congr 1
    rw [aC hlt] at hx
    exact bp hx
   have h1:decide ((k:Int)<(l.length:Int))=true:=by simpa using hlt
   by_cases hx1:x.length=1
   ·obtain⟨n,rfl⟩:=jL.1 hx1
    have hw:ar.wrap ((k:Int)+1)=((k+1:Nat):Int):=by rw [ay _ (by omega)];omega
    have hm:(if n>0 then n else 0)=max 0 n:=by split<;>omega
    have hv2:gF l=(vs++[max 0 n])++gF (l.drop (k+1)):=by rw [hv,hd];simp [gF]
    have hp:dA [n]=.agg [.sval false [.int .i64 n]]:=rfl
    have hb8:(k+1) * 8≤140737488355328:=by omega
    have hb9:k+1≤17592186044416:=by omega
    generalize max 0 n=q at *
    have Hv:=au (cD hv2 (cD hvl hlt))
    clear hk hv hvl hlt hd hx1 hv2
    repeat' first | refine st ?_ | (refine br ?_ ?_<;>intro hb) | fail
    refine fq HO.out 1 [2,5,6,7] rfl ss ss ss ?_
    simp only [ae,ao]
    refine HI.out (k+1,vs++[q]) _ _ (by have:=Hv.out.2.2;simp only;omega) ⟨Hv.out.2.2,Hv.out.1,by simp [Hv.out.2.1],ss,ss,ss,ss,ss, ?_⟩
    rw [co];first | done | rfl
   ·have hvv:gF l=vs:=by rw [hv,hd,rJ _ hx1,aP]
    have hh:=H.out
    rw [hvv] at hh
    have hp:dA x=.agg [.sval false (x.map gB)]:=rfl
    have hd1:((x.length:Int) != 1)=true:=by rw [bne_iff_ne];omega
    clear hk hv hvl hlt hd hx1 HI hvv
    repeat' first | refine st ?_ | (refine br ?_ ?_<;>intro hb) | fail
    refine fR Tryz.results295 ?_
    exact hh
  ·have h1:decide ((k:Int)<(l.length:Int))=false:=by simpa using hlt
   have hvv:gF l=vs:=by rw [hv,jM (by omega)];simp [gF]
   have hh:=H.out
   rw [hvv] at hh
   clear hk hv hvl hlt HI hvv
   repeat' first | refine st ?_ | (refine br ?_ ?_<;>intro hb) | fail
   refine fR Tryz.results295 ?_
   exact hh
theorem Fs (w0:World) (S:List aH) (s:List Int) (h1:1≤s.length) (h6:s.length≤6) (R:Rt) (h:PR R S (gS s)):az Tryz.prog w0 296 [.sval false (s.map gB)] S R:=by
 match s,h1,h6 with
 | [a],_,_=>exact Fy w0 S a R h
 | [a,b],_,_=>exact Fx w0 S a b R h
 | [a,b,c],_,_=>exact Fw w0 S a b c R h
 | [a,b,c,d],_,_=>exact Fv w0 S a b c d R h
 | [a,b,c,d,e],_,_=>exact Fu w0 S a b c d e R h
 | [a,b,c,d,e,f],_,_=>exact Ft w0 S a b c d e f R h
 | _::_::_::_::_::_::_::_,_,h=>simp at h
theorem E6 (n:Nat) (h:n<108):rV (n:Int)=(rU.find? fun p=>(n:Int)==p.1).map (·.2):=by
 have:(bJ 108).all (fun n=>decide (rV (n:Int)=(rU.find? fun p=>(n:Int)==p.1).map (·.2)))=true:=by decide +kernel
 simpa using aF.1 this n (cB.2 h)
theorem CV:rU.all (fun p=>decide (0≤p.1)&&decide (p.1<108))=true:=by decide +kernel
theorem va (v:Int):rV v=(rU.find? fun p=>v==p.1).map (·.2):=by
 by_cases hv:0≤v∧v<108
 ·obtain⟨n,rfl⟩:=i8 hv.1
  exact E6 n (by omega)
 ·have h1:(rU.find? fun p=>v==p.1)=none:=by
   rw [ym]
   intro p hp hq
   have:=aF.1 CV p hp
   simp only [aB,decide_eq_true_eq] at this
   simp only [beq_iff_eq] at hq
   omega
  rw [h1]
  unfold rV
  iterate 26 rw [if_neg (by omega)]
  rfl
theorem pS (c:Int):(iw.find? (fun e=>kR (.int .i64 c) e.1)=(rU.find? fun p=>c==p.1).map fun p=>((.int .i64 p.1:AV),p.2.av))∧iw.all (fun e=>fI Tryz.prog 3 e.1)=true:=by
 constructor
 ·exact sE c rU
 ·unfold iw
  rw [bT]
  exact aF.2 fun p _=>by simp only [fI,be,go_sem]
def FR (R:Rt) (S:List aH) (q:Option Ac × Nat):Prop:=match q with
 | (some a,n)=>R (.ret (.tup [a.av,.bool true,.int .i64 n])) S
 | (none,n)=>∀ a:Ac,R (.ret (.tup [a.av,.bool false,.int .i64 n])) S
theorem FE (w0:World) (S:List aH) (s:List Int) (r:List (List Int)) (hs:s.length≠1) (h1:1≤s.length) (h6:s.length≤6) (hl:r.length≤100) (R:Rt) (h:FR R S (gS s,1)):az Tryz.prog w0 256 [.sval false ((s::r).map dA),.mval iw] S R:=by
 have hva:=fun S'=>kP w0 S' (s::r) (by simp;omega)
 rw [rJ r hs] at hva
 have hsi:iw=iw:=rfl
 simp only [aG,aL,dA] at hva ⊢
 generalize iw=M at *
 have HP:=fun S' R=>Fs w0 S' s h1 h6 R
 cases hps:gS s with
 | none =>
  rw [hps] at h HP
  simp only [FR,PR] at h HP
  clear hps hs h1 h6 hl
  refine eN Tryz.func256 rfl Tryz.ntmps256 fun hO=>?_
  repeat' first | refine st ?_ | (refine ca ?_;first | apply hva | apply HP) | (refine br ?_ ?_<;>intro hb) | fail
  rintro⟨ak,an,am,ack,acn,tx⟩
  simp only [Ac.av,aR,putA]
  repeat' first | refine st ?_ | (refine br ?_ ?_<;>intro hb) | fail
  refine fR Tryz.results256 ?_
  exact h ⟨ak,an,am,ack,acn,tx⟩
 | some a =>
  obtain⟨ak,an,am,ack,acn,tx⟩:=a
  rw [hps] at h HP
  simp only [FR,PR,Ac.av] at h HP
  clear hps hs h1 h6 hl
  refine eN Tryz.func256 rfl Tryz.ntmps256 fun hO=>?_
  repeat' first | refine st ?_ | (refine ca ?_;first | apply hva | apply HP) | (refine br ?_ ?_<;>intro hb) | fail
  refine fR Tryz.results256 ?_
  exact h
def looks (x:Int) (r:List Int):Prop:=e9 x=none∨(∃ n,e9 x=some n)∧(r=[]∨∃ h t,r=h::t∧h≠5∧h≠2)
theorem FB (w0:World) (S:List aH) (l:List (List Int)) (x:Int) (r:List Int) (hv:gF l=x::r) (hl:l.length≤100) (hw:e9 x=none) (R:Rt) (h:FR R S (rV x,1)):az Tryz.prog w0 256 [.sval false (l.map dA),.mval iw] S R:=by
 have hva:=fun S'=>kP w0 S' l (by omega)
 have hof:=fun S'=>A8 w0 S' x
 rw [hv] at hva
 rw [hw] at hof
 simp only [aG,qD,gB] at hva hof
 clear hv hw hl
 obtain⟨hf,ha⟩:=pS x
 rw [va x] at h
 rcases jj (fun p=>x==p.1) rU with hk | ⟨j,a,hk⟩
 ·rw [hk] at hf h
  simp only [kj,FR] at hf h
  simp only [go_sem] at hf ha
  clear hk
  generalize iw=M at *
  refine eN Tryz.func256 rfl Tryz.ntmps256 fun hO=>?_
  repeat' first | refine st ?_ | (refine ca ?_;first | apply hva | apply hof) | (refine br ?_ ?_<;>intro hb) | fail
  refine fR Tryz.results256 ?_
  exact h ⟨0,0,0,0,0,[]⟩
 ·rw [hk] at hf h
  obtain⟨k1,k2,k3,k4,k5,k6⟩:=a
  simp only [dF,FR,Ac.av] at hf h
  simp only [go_sem] at hf ha
  clear hk
  generalize iw=M at *
  refine eN Tryz.func256 rfl Tryz.ntmps256 fun hO=>?_
  repeat' first | refine st ?_ | (refine ca ?_;first | apply hva | apply hof) | (refine br ?_ ?_<;>intro hb) | fail
  refine fR Tryz.results256 ?_
  exact h
theorem FC (w0:World) (S:List aH) (l:List (List Int)) (x:Int) (n:Int) (hv:gF l=x::[]) (hl:l.length≤100) (hw:e9 x=some n) (R:Rt) (h:FR R S (rV x,1)):az Tryz.prog w0 256 [.sval false (l.map dA),.mval iw] S R:=by
 have hva:=fun S'=>kP w0 S' l (by omega)
 have hof:=fun S'=>A8 w0 S' x
 rw [hv] at hva
 rw [hw] at hof
 simp only [aG,aL,qD,gB] at hva hof
 clear hv hw hl
 obtain⟨hf,ha⟩:=pS x
 rw [va x] at h
 rcases jj (fun p=>x==p.1) rU with hk | ⟨j,a,hk⟩
 ·rw [hk] at hf h
  simp only [kj,FR] at hf h
  simp only [go_sem] at hf ha
  clear hk
  generalize iw=M at *
  refine eN Tryz.func256 rfl Tryz.ntmps256 fun hO=>?_
  repeat' first | refine st ?_ | (refine ca ?_;first | apply hva | apply hof) | (refine br ?_ ?_<;>intro hb) | fail
  refine fR Tryz.results256 ?_
  exact h ⟨0,0,0,0,0,[]⟩
 ·rw [hk] at hf h
  obtain⟨k1,k2,k3,k4,k5,k6⟩:=a
  simp only [dF,FR,Ac.av] at hf h
  simp only [go_sem] at hf ha
  clear hk
  generalize iw=M at *
  refine eN Tryz.func256 rfl Tryz.ntmps256 fun hO=>?_
  repeat' first | refine st ?_ | (refine ca ?_;first | apply hva | apply hof) | (refine br ?_ ?_<;>intro hb) | fail
  refine fR Tryz.results256 ?_
  exact h
theorem FA (w0:World) (S:List aH) (l:List (List Int)) (x:Int) (n g:Int) (t:List Int) (hv:gF l=x::g::t) (hl:l.length≤100) (hw:e9 x=some n) (h5:g≠5) (h2:g≠2) (R:Rt) (h:FR R S (rV x,1)):az Tryz.prog w0 256 [.sval false (l.map dA),.mval iw] S R:=by
 have hva:=fun S'=>kP w0 S' l (by omega)
 have hof:=fun S'=>A8 w0 S' x
 rw [hv] at hva
 rw [hw] at hof
 simp only [aG,qD,gB] at hva hof
 have d5:(g==5)=false:=by simpa using h5
 have d2:(g==2)=false:=by simpa using h2
 have dl:decide ((1:Int)<((t.length+1+1:Nat):Int))=true:=by simp only [decide_eq_true_eq];omega
 clear hv hw hl h5 h2
 obtain⟨hf,ha⟩:=pS x
 rw [va x] at h
 rcases jj (fun p=>x==p.1) rU with hk | ⟨j,a,hk⟩
 ·rw [hk] at hf h
  simp only [kj,FR] at hf h
  simp only [go_sem] at hf ha
  clear hk
  generalize iw=M at *
  refine eN Tryz.func256 rfl Tryz.ntmps256 fun hO=>?_
  repeat' first | refine st ?_ | (refine ca ?_;first | apply hva | apply hof) | (refine br ?_ ?_<;>intro hb) | fail
  refine fR Tryz.results256 ?_
  exact h ⟨0,0,0,0,0,[]⟩
 ·rw [hk] at hf h
  obtain⟨k1,k2,k3,k4,k5,k6⟩:=a
  simp only [dF,FR,Ac.av] at hf h
  simp only [go_sem] at hf ha
  clear hk
  generalize iw=M at *
  refine eN Tryz.func256 rfl Tryz.ntmps256 fun hO=>?_
  repeat' first | refine st ?_ | (refine ca ?_;first | apply hva | apply hof) | (refine br ?_ ?_<;>intro hb) | fail
  refine fR Tryz.results256 ?_
  exact h
theorem C8 (w0:World) (S:List aH) (l:List (List Int)) (x:Int) (n:Int) (t:List Int) (hv:gF l=x::5::t) (hl:l.length≤100) (hw:e9 x=some n) (ht:t.length<1) (R:Rt) (h:FR R S (none,min 3 l.length)):az Tryz.prog w0 256 [.sval false (l.map dA),.mval iw] S R:=by
 have hvl:=mG l
 rw [hv] at hvl
 simp only [ah] at hvl
 have hva:=fun S'=>kP w0 S' l (by omega)
 have hof:=fun S'=>A8 w0 S' x
 rw [hv] at hva
 rw [hw] at hof
 simp only [aG,qD,gB] at hva hof
 have dl:decide ((1:Int)<((t.length+1+1:Nat):Int))=true:=by simp only [decide_eq_true_eq];omega
 have dn:decide ((3:Int)≤((t.length+1+1:Nat):Int))=false:=by simp only [decide_eq_false_iff_not];omega
 have hmn:(if (l.length:Int)<3 then (l.length:Int) else 3)=((min 3 l.length:Nat):Int):=by split<;>omega
 simp only [FR] at h
 clear hv hw hl ht hvl
 generalize iw=M at *
 refine eN Tryz.func256 rfl Tryz.ntmps256 fun hO=>?_
 repeat' first | refine st ?_ | (refine ca ?_;first | apply hva | apply hof) | (refine br ?_ ?_<;>intro hb) | fail
 refine fR Tryz.results256 ?_
 exact h ⟨0,0,0,0,0,[]⟩
theorem C9 (w0:World) (S:List aH) (l:List (List Int)) (x:Int) (n:Int) (a:Int) (t:List Int) (hv:gF l=x::5::a::t) (hl:l.length≤100) (hw:e9 x=some n) (R:Rt) (h:FR R S (g9 n 5 [a],3)):az Tryz.prog w0 256 [.sval false (l.map dA),.mval iw] S R:=by
 have hvl:=mG l
 rw [hv] at hvl
 simp only [ah] at hvl
 have hva:=fun S'=>kP w0 S' l (by omega)
 have hof:=fun S'=>A8 w0 S' x
 have hsh:=fun S'=>nX w0 S' n 5 [a] (by simp)
 rw [hv] at hva
 rw [hw] at hof
 simp only [aG,aL,qD,gB] at hva hof hsh
 have dl:decide ((1:Int)<((t.length+1+1+1:Nat):Int))=true:=by simp only [decide_eq_true_eq];omega
 have dn:(3:Int)≤((t.length+1+1+1:Nat):Int):=by omega
 have okC:=gB.all1 t
 simp only [AV.cells] at okC
 have hmn:(if (l.length:Int)<3 then (l.length:Int) else 3)=3:=by split<;>omega
 clear hv hw hl hvl
 cases hs:g9 n 5 [a] with
 | none =>
  rw [hs] at h hsh
  simp only [FR,yP] at h hsh
  clear hs
  generalize iw=M at *
  refine eN Tryz.func256 rfl Tryz.ntmps256 fun hO=>?_
  repeat' first | refine st ?_ | (refine ca ?_;first | apply hva | apply hof | apply hsh) | (refine br ?_ ?_<;>intro hb) | refine sd ?_ | apply aE | (apply aO;(· decide +kernel)) | refine bd ?_ ?_ | (refine cd ?_;first | apply hva | apply hof | apply hsh) | fail
  refine fR Tryz.results256 ?_
  exact h ⟨0,0,0,0,0,[]⟩
 | some y =>
  obtain⟨k1,k2,k3,k4,k5,k6⟩:=y
  rw [hs] at h hsh
  simp only [FR,yP,Ac.av] at h hsh
  clear hs
  generalize iw=M at *
  refine eN Tryz.func256 rfl Tryz.ntmps256 fun hO=>?_
  repeat' first | refine st ?_ | (refine ca ?_;first | apply hva | apply hof | apply hsh) | (refine br ?_ ?_<;>intro hb) | refine sd ?_ | apply aE | (apply aO;(· decide +kernel)) | refine bd ?_ ?_ | (refine cd ?_;first | apply hva | apply hof | apply hsh) | fail
  refine fR Tryz.results256 ?_
  exact h
theorem rY (w0:World) (S:List aH) (l:List (List Int)) (x:Int) (n:Int) (t:List Int) (hv:gF l=x::2::t) (hl:l.length≤100) (hw:e9 x=some n) (ht:t.length<3) (R:Rt) (h:FR R S (none,min 5 l.length)):az Tryz.prog w0 256 [.sval false (l.map dA),.mval iw] S R:=by
 have hvl:=mG l
 rw [hv] at hvl
 simp only [ah] at hvl
 have hva:=fun S'=>kP w0 S' l (by omega)
 have hof:=fun S'=>A8 w0 S' x
 rw [hv] at hva
 rw [hw] at hof
 simp only [aG,qD,gB] at hva hof
 have dl:decide ((1:Int)<((t.length+1+1:Nat):Int))=true:=by simp only [decide_eq_true_eq];omega
 have dn:decide ((5:Int)≤((t.length+1+1:Nat):Int))=false:=by simp only [decide_eq_false_iff_not];omega
 have hmn:(if (l.length:Int)<5 then (l.length:Int) else 5)=((min 5 l.length:Nat):Int):=by split<;>omega
 simp only [FR] at h
 clear hv hw hl ht hvl
 generalize iw=M at *
 refine eN Tryz.func256 rfl Tryz.ntmps256 fun hO=>?_
 repeat' first | refine st ?_ | (refine ca ?_;first | apply hva | apply hof) | (refine br ?_ ?_<;>intro hb) | fail
 refine fR Tryz.results256 ?_
 exact h ⟨0,0,0,0,0,[]⟩
theorem C_ (w0:World) (S:List aH) (l:List (List Int)) (x:Int) (n:Int) (a b c:Int) (t:List Int) (hv:gF l=x::2::a::b::c::t) (hl:l.length≤100) (hw:e9 x=some n) (R:Rt) (h:FR R S (g9 n 2 [a,b,c],5)):az Tryz.prog w0 256 [.sval false (l.map dA),.mval iw] S R:=by
 have hvl:=mG l
 rw [hv] at hvl
 simp only [ah] at hvl
 have hva:=fun S'=>kP w0 S' l (by omega)
 have hof:=fun S'=>A8 w0 S' x
 have hsh:=fun S'=>nX w0 S' n 2 [a,b,c] (by simp)
 rw [hv] at hva
 rw [hw] at hof
 simp only [aG,aL,qD,gB] at hva hof hsh
 have dl:decide ((1:Int)<((t.length+1+1+1+1+1:Nat):Int))=true:=by simp only [decide_eq_true_eq];omega
 have dn:(5:Int)≤((t.length+1+1+1+1+1:Nat):Int):=by omega
 have okC:=gB.all1 t
 simp only [AV.cells] at okC
 have hmn:(if (l.length:Int)<5 then (l.length:Int) else 5)=5:=by split<;>omega
 clear hv hw hl hvl
 cases hs:g9 n 2 [a,b,c] with
 | none =>
  rw [hs] at h hsh
  simp only [FR,yP] at h hsh
  clear hs
  generalize iw=M at *
  refine eN Tryz.func256 rfl Tryz.ntmps256 fun hO=>?_
  repeat' first | refine st ?_ | (refine ca ?_;first | apply hva | apply hof | apply hsh) | (refine br ?_ ?_<;>intro hb) | refine sd ?_ | apply aE | (apply aO;(· decide +kernel)) | refine bd ?_ ?_ | (refine cd ?_;first | apply hva | apply hof | apply hsh) | fail
  refine fR Tryz.results256 ?_
  exact h ⟨0,0,0,0,0,[]⟩
 | some y =>
  obtain⟨k1,k2,k3,k4,k5,k6⟩:=y
  rw [hs] at h hsh
  simp only [FR,yP,Ac.av] at h hsh
  clear hs
  generalize iw=M at *
  refine eN Tryz.func256 rfl Tryz.ntmps256 fun hO=>?_
  repeat' first | refine st ?_ | (refine ca ?_;first | apply hva | apply hof | apply hsh) | (refine br ?_ ?_<;>intro hb) | refine sd ?_ | apply aE | (apply aO;(· decide +kernel)) | refine bd ?_ ?_ | (refine cd ?_;first | apply hva | apply hof | apply hsh) | fail
  refine fR Tryz.results256 ?_
  exact h
theorem I_ (w0:World) (S:List aH) (l:List (List Int)) (hne:l≠[]) (hl:l.length≤100) (hs:∀ s∈l,1≤s.length∧s.length≤6) (R:Rt) (h:FR R S (g_ l)):az Tryz.prog w0 256 [.sval false (l.map dA),.mval iw] S R:=by
 unfold g_ at h
 cases hv:gF l with
 | nil =>
  rw [hv] at h
  match l,hne,hl,hs,hv,h with
  | s::r,_,hl,hs,hv,h =>
   have h1:=hs s (by simp)
   have hn:s.length≠1:=by
    intro e
    obtain⟨n,rfl⟩:=jL.1 e
    simp [gF] at hv
   exact FE w0 S s r hn h1.1 h1.2 (by simp at hl;omega) R h
 | cons x r =>
  rw [hv] at h
  cases hw:e9 x with
  | none =>
   simp only [hw] at h
   exact FB w0 S l x r hv hl hw R h
  | some n =>
   simp only [hw] at h
   match r,hv,h with
   | [],hv,h=>exact FC w0 S l x n hv hl hw R h
   | g::t,hv,h =>
    simp only at h
    by_cases h5:g=5
    ·subst h5
     rw [if_pos rfl] at h
     match t,hv,h with
     | [],hv,h=>exact C8 w0 S l x n [] hv hl hw (by simp) R h
     | a::t,hv,h =>
      rw [if_pos (by simp)] at h
      exact C9 w0 S l x n a t hv hl hw R h
    ·rw [if_neg h5] at h
     by_cases h2:g=2
     ·subst h2
      rw [if_pos rfl] at h
      match t,hv,h with
      | [],hv,h=>exact rY w0 S l x n [] hv hl hw (by simp) R h
      | [a],hv,h=>exact rY w0 S l x n [a] hv hl hw (by simp) R h
      | [a,b],hv,h=>exact rY w0 S l x n [a,b] hv hl hw (by simp) R h
      | a::b::c::t,hv,h =>
       rw [if_pos (by simp)] at h
       exact C_ w0 S l x n a b c t hv hl hw R h
     ·rw [if_neg h2] at h
      exact FA w0 S l x n g t hv hl hw h5 h2 R h
theorem yq {l:List (List Int)} (h:l≠[]):1≤(g_ l).2∧(g_ l).2≤l.length:=by
 have hl:1≤l.length:=mq.2 h
 have hv:=mG l
 unfold g_
 split
 ·exact⟨by simp,by simpa using hl⟩
 ·next v r hvr =>
  rw [hvr] at hv
  split
  ·next n g t _ =>
   simp only [ah] at hv
   split
   ·split
    ·exact⟨by simp,by simp only;omega⟩
    ·exact⟨by simp only;omega,by simp only;omega⟩
   ·split
    ·split
     ·exact⟨by simp,by simp only;omega⟩
     ·exact⟨by simp only;omega,by simp only;omega⟩
    ·exact⟨by simp,by simpa using hl⟩
  ·exact⟨by simp,by simpa using hl⟩
theorem xd:∀ (k:Nat) (l:List (List Int)),(kp k l).length≤k
 | 0,_=>bg _
 | k+1,l=>by
  unfold kp
  split
  ·simp
  ·have:=xd k (l.drop (g_ l).2)
   cases (g_ l).1<;>simp only [pG,iJ,ab,ah,aj]<;>omega
theorem Ja (w0:World) (S:List aH) (l:List (List Int)) (R:Rt) (h:R (.ret (.fn (.func 254) [] [.own S.length 0])) (S++[.cells [.sval false (l.map dA)]])):az Tryz.prog w0 211 [.sval false (l.map dA)] S R:=by
 refine D_ Tryz.func211 rfl (by decide +kernel) (by rw [Tryz.ntmps211];simp) (by rw [Tryz.ntmps211];decide) (fun hO=>?_);rw [Tryz.ntmps211]
 repeat' first | refine st ?_ | (refine br ?_ ?_<;>intro hb) | fail
 (apply D7;iterate 4 (· simp only [go_sem, *,Tryz.results211];try rfl))
 exact h
theorem Jb (w0:World) (hA:l6 w0) (l0:List (List Int)) (hl0:l0.length≤100) (hs0:∀ s∈l0,1≤s.length∧s.length≤6) (a b n:Nat) (ha:decide (a<n)=true) (hb:decide (b<n)=true) (I:List Ac→List (List Int)→List aH→Prop)
  (hI:∀ ys rem S,I ys rem S→S.length=n∧bP S∧S[b]? = some (.cells [.sval false (rem.map dA)]))
  (hset:∀ ys rem rem' S,I ys rem S→I ys rem' (S.set b (.cells [.sval false (rem'.map dA)])))
  (hround:∀ ys rem S c,ys.length<l0.length→I ys rem S→∀ (E:List aH) (R':ed→List aH→Prop),(∀ S2 E2,I (ys++[c]) rem S2→R' (.ret (.bool true)) (S2++(E++E2)))→YA Tryz.prog w0 a [c.av] (S++E) R')
  (S:List aH) (h0:I [] l0 S) (R:Rt) (h:∀ S',I (kp l0.length l0) [] S'→R (.ret (.tup [])) S') :
  az Tryz.prog w0 254 [.yld a,.own b 0] S R:=by
 have hn:=(hI _ _ _ h0).1
 have hsi:=Fr w0 hA
 have hMp:Go.Fen.plainP iw=true:=by decide +kernel
 have hMl:∀ n,nC n iw=true:=fun n=>by rfl
 generalize hM:iw=M at hsi hMp hMl
 refine eN Tryz.func254 rfl Tryz.ntmps254 fun hO=>?_
 repeat' first | refine st ?_ | (refine ca ?_;apply hsi) | (refine br ?_ ?_<;>intro hb) | fail
 clear hsi
 refine dX (fun (p:List Ac × List (List Int) × Nat) env S'=>p.2.1.length≤p.2.2∧kp l0.length l0=p.1++kp p.2.2 p.2.1∧(p.2.1.length≤100∧∀ s∈p.2.1,1≤s.length∧s.length≤6)∧env 1000000=.dfr []∧env 0=.yld a∧env 1=.own b 0∧env 3=.mval M∧I p.1 p.2.1 S') (fun p=>p.2.1.length) ([],l0,l0.length) ?_ ?_
 ·exact⟨bg _,rfl,⟨hl0,hs0⟩,ss,ss,ss,ss,h0⟩
 ·rintro⟨ys,rem,k⟩ env S' ⟨hk,hp,hsz,e0,ey,e1,e3,hIi⟩ IH
  have HI:=au IH
  have HIi:=au hIi
  have Hn:=au hn
  have Hr:=au hround
  have HJ:=au hI
  have HS:=au hset
  have H:=au h
  obtain⟨q1,q2,hbS⟩:=hI _ _ _ hIi
  have Hq:=au (cD q1 q2)
  have hbl:b<S'.length:=by rw [q1];simpa using hb
  have hla:decide (a<S'.length)=true:=by rw [q1];exact ha
  have hlb:decide (b<S'.length)=true:=by rw [q1];exact hb
  clear IH hIi hn hround hI hset h h0 hs0 hl0 q1 q2 hO
  simp only at hk hp hsz hbS
  by_cases hne:rem=[]
  ·subst hne
   have hh:=H.out S' (by rw [hp];cases k<;>simpa [kp] using HIi.out)
   clear hp hsz hk HI HS Hr
   simp only [aL] at hbS
   repeat' first | refine st ?_ | (refine br ?_ ?_<;>intro hb) | fail
   refine GQ Tryz.results254 ?_ ?_ ?_
   ·exact Hq.out.2
   ·exact Hq.out.1.trans Hn.out.symm
   ·exact hh
  ·have hlp:0<rem.length:=mq.2 hne
   have h1:decide ((0:Int)<(rem.length:Int))=true:=by simp only [decide_eq_true_eq];omega
   obtain⟨k',rfl⟩:∃ k',k=k'+1:=⟨k - 1,by omega⟩
   have hfn:=yq hne
   have hfr:=fun S' R=>I_ w0 S' rem hne hsz.1 hsz.2 R
   have hpp:kp (k'+1) rem=(g_ rem).1.toList++kp k' (rem.drop (g_ rem).2):=by
    show (if rem=[] then [] else _)=_
    rw [if_neg hne]
   rw [hpp] at hp
   rw [hM] at hfr
   rcases hfo:g_ rem with⟨o,m⟩
   rw [hfo] at hp hfn hfr
   simp only at hp hfn
   have hbA:∀ L,(S'++L)[b]? = some (.cells [.sval false (rem.map dA)]):=fun L=>by rw [aJ hbl];exact hbS
   have hbU:∀ L X,(S'++L).set b X=S'.set b X++L:=fun L X=>by rw [qS _ _ hbl]
   have okP:=dA.all1 rem
   simp only [AV.cells] at okP
   have hmi:(m:Int)≤(rem.length:Int):=by omega
   have hdl:(rem.drop m).length<rem.length:=by rw [zE];omega
   have Hd:=au (show (rem.drop m).length≤k'∧((rem.drop m).length≤100∧∀ s∈rem.drop m,1≤s.length∧s.length≤6) by
    exact⟨by omega,by omega,fun s hs=>hsz.2 s (List.mem_of_mem_drop hs)⟩)
   have Hdl:=au hdl
   have Hp:=au hp
   have hdm:List.drop m (qR rem.length (rem.map dA))=(rem.drop m).map dA:=by
    rw [dW (by simp)];exact List.map_drop.symm
   clear hpp hfo hp hk hsz hne hlp hfn hdl H
   cases o with
   | none =>
    simp only [FR] at hfr
    have hI2:=HS.out _ _ (rem.drop m) _ HIi.out
    repeat' first | refine st ?_ | (refine ca ?_;apply hfr) | (refine br ?_ ?_<;>intro hb) | fail
    rintro⟨ak,an,am,ack,acn,tx⟩
    simp only [Ac.av,aR,putA]
    repeat' first | refine st ?_ | (refine br ?_ ?_<;>intro hb) | fail
    refine d8 (HJ.out _ _ _ hI2).2.1 0 [0,1,3] (Hn.out.trans (HJ.out _ _ _ hI2).1.symm) ss ss ss ?_
    refine HI.out (ys,rem.drop m,k') _ _ Hdl.out ⟨Hd.out.1,by simpa using Hp.out,Hd.out.2,ss,ss,ss,ss, ?_⟩
    simpa only [ao,aP] using hI2
   | some c =>
    obtain⟨ak,an,am,ack,acn,tx⟩:=c
    simp only [FR,Ac.av] at hfr
    repeat' first | refine st ?_ | (refine ca ?_;apply hfr) | (refine br ?_ ?_<;>intro hb) | fail
    apply nt
    ·(simp only [go_sem, *];try rfl)
    ·rfl
    ·(simp only [go_sem, *];try rfl)
    ·rfl
    ·(simp only [go_sem, *];try rfl)
    have hyl:ys.length<l0.length:=by
     have e1:=congrArg lz Hp.out
     have e2:=xd l0.length l0
     simp only [iJ,al,ap,ab,ah] at e1
     omega
    refine Hr.out ys rem S' ⟨ak,an,am,ack,acn,tx⟩ hyl HIi.out _ _ ?_
    clear hyl
    intro S3 E3 hI3
    obtain⟨q1,q2,hb3⟩:=HJ.out _ _ _ hI3
    have hbl3:b<S3.length:=by rw [q1];simpa using hb
    have hla3:decide (a<S3.length)=true:=by rw [q1];exact ha
    have hlb3:decide (b<S3.length)=true:=by rw [q1];exact hb
    have hbA3:∀ L,(S3++L)[b]? = some (.cells [.sval false (rem.map dA)]):=fun L=>by rw [aJ hbl3];exact hb3
    have hbU3:∀ L X,(S3++L).set b X=S3.set b X++L:=fun L X=>by rw [qS _ _ hbl3]
    have hI2:=HS.out _ _ (rem.drop m) _ hI3
    clear hbA hbU hbS hb3 hbl hbl3 hla hlb q1 q2 hI3 hfr
    simp only [aR,putA]
    repeat' first | refine st ?_ | (refine br ?_ ?_<;>intro hb) | fail
    refine d8 (HJ.out _ _ _ hI2).2.1 0 [0,1,3] (Hn.out.trans (HJ.out _ _ _ hI2).1.symm) ss ss ss ?_
    refine HI.out (ys++[⟨ak,an,am,ack,acn,tx⟩],rem.drop m,k') _ _ Hdl.out ⟨Hd.out.1,by simpa using Hp.out,Hd.out.2,ss,ss,ss,ss, ?_⟩
    simpa only [ao,aP] using hI2
theorem xk {l:List (List Int)} (h:ep l=true):l.length≤16∧∀ s∈l,1≤s.length∧s.length≤6:=by
 unfold ep at h
 simp only [aB,ax,List.any_eq_false,decide_eq_true_eq] at h
 refine⟨h.1,fun s hs=>?_⟩
 have:=h.2.2 s hs
 unfold jJ at this
 simp only [fc,not_or,beq_iff_eq,decide_eq_true_eq] at this
 omega
theorem E8 (w0:World) (hA:l6 w0):tj w0:=by
 intro S l hok R h
 obtain⟨hl,hs⟩:=xk hok
 have hck:=fun S'=>p4 w0 S' l ⟨by omega,fun s h=>by have:=hs s h;omega⟩
 unfold tI at hck
 rw [if_pos hok] at hck
 unfold mQ at h
 by_cases hne:l=[]
 ·subst hne
  rw [if_pos rfl] at h
  have hpn:=I9 w0
  simp only [eu,Ac.av,aG,aL] at h hpn hck ⊢
  clear hl hs hok
  refine eN Tryz.func155 rfl Tryz.ntmps155 fun hO=>?_
  repeat' first | refine st ?_ | (refine ca ?_;first | apply hck | apply hpn) | (refine br ?_ ?_<;>intro hb) | fail
  refine fR Tryz.results155 ?_
  exact h
 ·rw [if_neg hne] at h
  have hle:((l.length:Int)==0)=false:=by
   have:=mq.2 hne
   simp only [beq_eq_false_iff_ne];omega
  have hek:=fun S'=>Ja w0 S' l
  have H:=au h
  clear h hok hne
  refine eN Tryz.func155 rfl Tryz.ntmps155 fun hO=>?_
  repeat' first | refine st ?_ | (refine ca ?_;first | apply hck | apply hek) | (refine br ?_ ?_<;>intro hb) | fail
  refine lD (a:=S.length) (j:=0) 25 6 ss ss (by decide) ?_
  simp only [go_sem, *]
  apply rF [2]
  ·rfl
  ·(simp only [go_sem, *];try rfl)
  ·rfl
  ·(simp only [go_sem, *];try rfl)
  ·(simp only [go_sem, *];try rfl)
  intro LB hLB
  have hLB2:∀ m,LB.ltB (S.length+(1+m))=true:=by intro m;rw [hLB];(simp only [go_sem, *];try rfl);simp;omega
  have HLB:=au hLB
  have HO:=au hO
  clear hLB hck hek hle hO
  refine Jb w0 hA l (by omega) hs (S.length+4) (S.length+1) (S.length+5) (by simp) (by simp) (fun ys rem S'=>ys.length≤100∧S'=S++[.cells [.sown (S.length+2) ys.length ys.length],.cells [.sval false (rem.map dA)],.arr 25 6 0 ys.length (ys.map Ac.av),.obj (.deferred (some [])),LB]) ?_ ?_ ?_ _ ?_ _ ?_
  ·rintro ys rem _ ⟨_,rfl⟩
   have h7:=hLB2 4
   clear hA hl hs
   refine⟨by simp,bP.app HO.out ?_,ss⟩
   (simp only [go_sem, *];try rfl)
  ·rintro ys rem rem' _ ⟨h1,rfl⟩
   exact⟨h1,ss⟩
  ·rintro ys rem _ c hyl ⟨h1,rfl⟩ E R' hR1
   have hb:(ys.length+1) * 56≤140737488355328:=by omega
   have hcl:(ys.map Ac.av).length=ys.length:=by simp
   have HR:=au hR1
   have hyl2:ys.length+1≤100:=by omega
   have Hy:=au hyl2
   obtain⟨ak,an,am,ack,acn,tx⟩:=c
   have okC:=Ac.ok ys
   simp only [dz,AV.cells] at okC
   simp only [Ac.av]
   clear hA hl hs hyl h1 hR1 hyl2
   apply rD HLB.out
   ·(simp only [go_sem, *];try rfl)
   ·rfl
   ·decide
   ·rfl
   ·rfl
   ·(simp only [go_sem, *];try rfl)
   intro rb BB hBB
   have HBB:=au hBB
   clear hBB
   repeat' first | refine st ?_ | (refine br ?_ ?_<;>intro hb) | fail
   apply rC
   ·(simp only [go_sem, *];try rfl)
   ·(simp only [go_sem, *];try rfl)
   repeat' first | refine st ?_ | (refine br ?_ ?_<;>intro hb) | fail
   apply Jd HLB.out HBB.out
   ·(simp only [go_sem, *];try rfl)
   ·(simp only [go_sem, *];try rfl)
   have key:=HR.out (S++[.cells [.sown (S.length+2) (ys.length+1) (ys.length+1)],.cells [.sval false (rem.map dA)],.arr 25 6 0 (ys.length+1) (ys.map Ac.av++[.agg [.int .i64 ak,.int .i64 an,.int .i64 am,.int .i64 ack,.int .i64 acn,.str tx]]),.obj (.deferred (some [])),LB]) [.cells [.int .i64 ak,.int .i64 an,.int .i64 am,.int .i64 ack,.int .i64 acn,.str tx],.arr 25 6 0 0 [.agg [.int .i64 ak,.int .i64 an,.int .i64 am,.int .i64 ack,.int .i64 acn,.str tx]]] ⟨by rw [ab];exact Hy.out,by rw [ab,co];rfl⟩
   simpa only [ki,al,ap] using key
  ·exact⟨by simp,ss⟩
  ·rintro _ ⟨_,rfl⟩
   have hh:=H.out
   generalize kp l.length l=ys at hh ⊢
   clear hA hl hs H
   have okC:=Ac.ok ys
   apply wd HLB.out rfl
   ·(simp only [go_sem, *];try rfl)
   ·(simp only [go_sem, *];try rfl)
   repeat' first | refine st ?_ | (refine br ?_ ?_<;>intro hb) | fail
   refine fR Tryz.results155 ?_
   exact hh
def mK (e:Ev):Ev:={ e with inter:=e.inter.take 6,text:=e.text.take 600,pars:=(e.pars.take 20).map (·.take 10) }
theorem uR {ops:Array Oper}{pl:List (Option (Nat × AV))}{M i q n:Nat} (hq:q≤CJ ops pl M i) (h:(CJ ops pl M i==n)=true):q≤n:=by
 rw [beq_iff_eq] at h;omega
def Pp (k c:Int) (pv fi:Nat) (ps:List (List Int)) (it tx:List UInt8):Nat→List AV
 | 0=>[.int .i64 k,.int .i64 c,.int .u8 pv,.int .u8 fi,.sval false (ps.map dA),.str it,.str tx]
 | 1=>[.int .i64 k,.int .i64 c,.int .u8 pv,.int .u8 fi,.sval false (ps.map dA),.str (it.take 6),.str tx]
 | _=>[.int .i64 k,.int .i64 c,.int .u8 pv,.int .u8 fi,.sval false (ps.map dA),.str (it.take 6),.str (tx.take 600)]
theorem Ko (w0:World) (S:List aH) (e:Ev) (R:Rt) (h:R (.ret (mK e).av) S):az Tryz.prog w0 14 [e.av] S R:=by
 obtain⟨k,c,pv,fi,ps,it,tx⟩:=e
 have H:=au h
 clear h
 have m6:(if (6:Int)<(it.length:Int) then 6 else (it.length:Int))=((min it.length 6:Nat):Int):=by split<;>omega
 have m6b:((min it.length 6:Nat):Int)≤(it.length:Int):=by omega
 have m6c:qR (min it.length 6) it=it.take 6:=by rw [yd,← tq,bQ]
 have m7:(if (600:Int)<(tx.length:Int) then 600 else (tx.length:Int))=((min tx.length 600:Nat):Int):=by split<;>omega
 have m7b:((min tx.length 600:Nat):Int)≤(tx.length:Int):=by omega
 have m7c:qR (min tx.length 600) tx=tx.take 600:=by rw [yd,← tq,bQ]
 simp only [Ev.av]
 refine eN Tryz.func14 rfl Tryz.ntmps14 fun hO=>?_
 have HO:=au hO
 clear hO
 repeat' ((fail_if_success (apply bA 1));first | refine st ?_ | (refine br ?_ ?_<;>intro hb) | fail)
 refine eR (n:=18) mixed rfl ?_
 refine Ay [some (5,.own S.length 5),some (6,.str it),some (7,.own S.length 5),some (8,.str it),some (9,.int .i64 (it.length:Int)),some (10,.int .i64 ((min it.length 6:Nat):Int)),some (11,.str (it.take 6)),some (12,.own S.length 6),some (13,.str tx),some (14,.own S.length 6),some (15,.str tx),some (16,.int .i64 (tx.length:Int)),some (17,.int .i64 ((min tx.length 600:Nat):Int)),some (18,.str (tx.take 600)),some (19,.own S.length 5),none,some (20,.own S.length 6),none] (fun q=>S++[.cells (Pp k c pv fi ps it tx q) none,.cells [.int .i64 0,.int .i64 0,.int .u8 0,.int .u8 0,.snil,.str [],.str []] none]) 2 rfl rfl rfl rfl (by decide +kernel) (by kernel_rfl) ⟨?s0, ?s1, ?s2, ?s3, ?s4, ?s5, ?s6, ?s7, ?s8, ?s9, ?s10, ?s11, ?s12, ?s13, ?s14, ?s15, ?s16, ?s17,trivial⟩ ?z
 case s0 | s2 | s7 | s9 | s14 | s16 =>
  intro q hq env hd
  clear hq
  have q1:=hd.2 1 rfl
  simp only [go_sem, *] at q1
  clear hd
  repeat' first | refine st ?_ | (refine br ?_ ?_<;>intro hb) | refine sd ?_ | apply aE | (apply aO;(· decide +kernel)) | refine bd ?_ ?_ | fail
  first | exact⟨rfl,rfl⟩ | exact⟨trivial,trivial⟩ | exact⟨trivial,rfl⟩
 case s1 =>
  intro q hq env hd
  obtain rfl:q=0:=tv.1 (uR (n:=0) hq (by kernel_rfl))
  clear hq
  show ie _ _ _ _ _ _ _ env (S++[.cells [.int .i64 k,.int .i64 c,.int .u8 pv,.int .u8 fi,.sval false (ps.map dA),.str it,.str tx] none,_])
  have r0:=hd.1 0 (by decide +kernel) _ _ rfl
  have q1:=hd.2 1 rfl
  simp only [go_sem, *] at q1
  clear hd
  repeat' first | refine st ?_ | (refine br ?_ ?_<;>intro hb) | refine sd ?_ | apply aE | (apply aO;(· decide +kernel)) | refine bd ?_ ?_ | fail
  first | exact⟨rfl,rfl⟩ | exact⟨trivial,trivial⟩ | exact⟨trivial,rfl⟩
 case s3 =>
  intro q hq env hd
  obtain rfl:q=0:=tv.1 (uR (n:=0) hq (by kernel_rfl))
  clear hq
  show ie _ _ _ _ _ _ _ env (S++[.cells [.int .i64 k,.int .i64 c,.int .u8 pv,.int .u8 fi,.sval false (ps.map dA),.str it,.str tx] none,_])
  have r2:=hd.1 2 (by decide +kernel) _ _ rfl
  have q1:=hd.2 1 rfl
  simp only [go_sem, *] at q1
  clear hd
  repeat' first | refine st ?_ | (refine br ?_ ?_<;>intro hb) | refine sd ?_ | apply aE | (apply aO;(· decide +kernel)) | refine bd ?_ ?_ | fail
  first | exact⟨rfl,rfl⟩ | exact⟨trivial,trivial⟩ | exact⟨trivial,rfl⟩
 case s4 =>
  intro q hq env hd
  clear hq
  have r3:=hd.1 3 (by decide +kernel) _ _ rfl
  have q1:=hd.2 1 rfl
  simp only [go_sem, *] at q1
  clear hd
  repeat' first | refine st ?_ | (refine br ?_ ?_<;>intro hb) | refine sd ?_ | apply aE | (apply aO;(· decide +kernel)) | refine bd ?_ ?_ | fail
  first | exact⟨rfl,rfl⟩ | exact⟨trivial,trivial⟩ | exact⟨trivial,rfl⟩
 case s5 =>
  intro q hq env hd
  clear hq
  have r4:=hd.1 4 (by decide +kernel) _ _ rfl
  have q1:=hd.2 1 rfl
  simp only [go_sem, *] at q1
  clear hd
  repeat' first | refine st ?_ | (refine br ?_ ?_<;>intro hb) | refine sd ?_ | apply aE | (apply aO;(· decide +kernel)) | refine bd ?_ ?_ | fail
  first | exact⟨rfl,rfl⟩ | exact⟨trivial,trivial⟩ | exact⟨trivial,rfl⟩
 case s6 =>
  intro q hq env hd
  clear hq
  have r1:=hd.1 1 (by decide +kernel) _ _ rfl
  have r5:=hd.1 5 (by decide +kernel) _ _ rfl
  have q1:=hd.2 1 rfl
  simp only [go_sem, *] at q1
  clear hd
  repeat' first | refine st ?_ | (refine br ?_ ?_<;>intro hb) | refine sd ?_ | apply aE | (apply aO;(· decide +kernel)) | refine bd ?_ ?_ | fail
  first | exact⟨rfl,rfl⟩ | exact⟨trivial,trivial⟩ | exact⟨trivial,rfl⟩
 case s8 =>
  intro q hq env hd
  obtain rfl:q=0:=tv.1 (uR (n:=0) hq (by kernel_rfl))
  clear hq
  show ie _ _ _ _ _ _ _ env (S++[.cells [.int .i64 k,.int .i64 c,.int .u8 pv,.int .u8 fi,.sval false (ps.map dA),.str it,.str tx] none,_])
  have r7:=hd.1 7 (by decide +kernel) _ _ rfl
  have q1:=hd.2 1 rfl
  simp only [go_sem, *] at q1
  clear hd
  repeat' first | refine st ?_ | (refine br ?_ ?_<;>intro hb) | refine sd ?_ | apply aE | (apply aO;(· decide +kernel)) | refine bd ?_ ?_ | fail
  first | exact⟨rfl,rfl⟩ | exact⟨trivial,trivial⟩ | exact⟨trivial,rfl⟩
 case s10 =>
  intro q hq env hd
  obtain rfl:q=0:=tv.1 (uR (n:=0) hq (by kernel_rfl))
  clear hq
  show ie _ _ _ _ _ _ _ env (S++[.cells [.int .i64 k,.int .i64 c,.int .u8 pv,.int .u8 fi,.sval false (ps.map dA),.str it,.str tx] none,_])
  have r9:=hd.1 9 (by decide +kernel) _ _ rfl
  have q1:=hd.2 1 rfl
  simp only [go_sem, *] at q1
  clear hd
  repeat' first | refine st ?_ | (refine br ?_ ?_<;>intro hb) | refine sd ?_ | apply aE | (apply aO;(· decide +kernel)) | refine bd ?_ ?_ | fail
  first | exact⟨rfl,rfl⟩ | exact⟨trivial,trivial⟩ | exact⟨trivial,rfl⟩
 case s11 =>
  intro q hq env hd
  clear hq
  have r10:=hd.1 10 (by decide +kernel) _ _ rfl
  have q1:=hd.2 1 rfl
  simp only [go_sem, *] at q1
  clear hd
  repeat' first | refine st ?_ | (refine br ?_ ?_<;>intro hb) | refine sd ?_ | apply aE | (apply aO;(· decide +kernel)) | refine bd ?_ ?_ | fail
  first | exact⟨rfl,rfl⟩ | exact⟨trivial,trivial⟩ | exact⟨trivial,rfl⟩
 case s12 =>
  intro q hq env hd
  clear hq
  have r11:=hd.1 11 (by decide +kernel) _ _ rfl
  have q1:=hd.2 1 rfl
  simp only [go_sem, *] at q1
  clear hd
  repeat' first | refine st ?_ | (refine br ?_ ?_<;>intro hb) | refine sd ?_ | apply aE | (apply aO;(· decide +kernel)) | refine bd ?_ ?_ | fail
  first | exact⟨rfl,rfl⟩ | exact⟨trivial,trivial⟩ | exact⟨trivial,rfl⟩
 case s13 =>
  intro q hq env hd
  clear hq
  have r8:=hd.1 8 (by decide +kernel) _ _ rfl
  have r12:=hd.1 12 (by decide +kernel) _ _ rfl
  have q1:=hd.2 1 rfl
  simp only [go_sem, *] at q1
  clear hd
  repeat' first | refine st ?_ | (refine br ?_ ?_<;>intro hb) | refine sd ?_ | apply aE | (apply aO;(· decide +kernel)) | refine bd ?_ ?_ | fail
  first | exact⟨rfl,rfl⟩ | exact⟨trivial,trivial⟩ | exact⟨trivial,rfl⟩
 case s15 =>
  intro env hd
  show ie _ _ _ _ _ _ _ env (S++[.cells [.int .i64 k,.int .i64 c,.int .u8 pv,.int .u8 fi,.sval false (ps.map dA),.str it,.str tx] none,_])
  have r14:=hd.1 14 (by decide +kernel) _ _ rfl
  have r6:=hd.1 6 (by decide +kernel) _ _ rfl
  have q1:=hd.2 1 rfl
  simp only [go_sem, *] at q1
  clear hd
  repeat' first | refine st ?_ | (refine br ?_ ?_<;>intro hb) | refine sd ?_ | apply aE | (apply aO;(· decide +kernel)) | refine bd ?_ ?_ | fail
  first | exact⟨rfl,rfl⟩ | exact⟨trivial,trivial⟩ | exact⟨trivial,rfl⟩
 case s17 =>
  intro env hd
  show ie _ _ _ _ _ _ _ env (S++[.cells [.int .i64 k,.int .i64 c,.int .u8 pv,.int .u8 fi,.sval false (ps.map dA),.str (it.take 6),.str tx] none,_])
  have r16:=hd.1 16 (by decide +kernel) _ _ rfl
  have r13:=hd.1 13 (by decide +kernel) _ _ rfl
  have q1:=hd.2 1 rfl
  simp only [go_sem, *] at q1
  clear hd
  repeat' first | refine st ?_ | (refine br ?_ ?_<;>intro hb) | refine sd ?_ | apply aE | (apply aO;(· decide +kernel)) | refine bd ?_ ?_ | fail
  first | exact⟨rfl,rfl⟩ | exact⟨trivial,trivial⟩ | exact⟨trivial,rfl⟩
 case z =>
  intro env hs hk
  have q1:=hk 1 rfl
  have q2:=hk 2 rfl
  have q9:=hk 1000000 rfl
  clear hs hk
  simp only [go_sem, *] at q1 q2 q9
  simp only [Pp]
  clear m6 m6b m6c m7 m7b m7c
  generalize hit:it.take 6=it'
  generalize htx:tx.take 600=tx'
  repeat' first | refine st ?_ | (refine br ?_ ?_<;>intro hb) | fail
  refine nW (t:=3) 63 1 ss (by decide) ?_
  refine dX (fun (i:Nat) env S'=>i≤20∧i≤ps.length∧env 1000000=.dfr []∧env 1=.own S.length 0∧env 2=.own (S.length+1) 0∧env 3=.sown (S.length+2) i i∧env 4=.int .i64 (i:Int) ∧
   S'=S++[.cells [.int .i64 k,.int .i64 c,.int .u8 pv,.int .u8 fi,.sval false (ps.map dA),.str it',.str tx'] none,.cells [.int .i64 0,.int .i64 0,.int .u8 0,.int .u8 0,.snil,.str [],.str []] none,.arr 63 1 0 i (((ps.take i).map (·.take 10)).map dA)]) (fun i=>20 - i) 0 ?_ ?_
  ·exact⟨by omega,bI _,ss,ss,ss,ss,ss,ss⟩
  ·rintro i env S' ⟨hi,hil,e0,e1,e2,e3,e4,rfl⟩ IH
   have HI:=au IH
   clear IH q1 q2 q9
   have hml:(((ps.take i).map (·.take 10)).map dA).length=i:=by simp;omega
   by_cases hlt:i<ps.length
   ·have h1:decide ((i:Int)<(ps.length:Int))=true:=by simpa using hlt
    by_cases hl2:i<20
    ·have h2:decide ((i:Int)<20)=true:=by simp only [decide_eq_true_eq];omega
     obtain⟨x,hx⟩:∃ x,ps[i]? = some x:=⟨_,aC hlt⟩
     have hw:ar.wrap ((i:Int)+1)=((i+1:Nat):Int):=by rw [ay _ (by omega)];omega
     have hp:dA x=.agg [.sval false (x.map gB)]:=rfl
     have m8:(if (10:Int)<(x.length:Int) then 10 else (x.length:Int))=((min x.length 10:Nat):Int):=by split<;>omega
     have m8b:((min x.length 10:Nat):Int)≤(x.length:Int):=by omega
     have m8c:qR (min x.length 10) (x.map gB)=(x.take 10).map gB:=by rw [← List.map_take];congr 1;rw [yd,← tq,bQ]
     have okC:=gB.all1 x
     have hb8:(i+1) * 24≤140737488355328:=by omega
     have okP:=dA.all1 ((ps.take i).map (·.take 10))
     simp only [AV.cells] at okC okP
     have Ht:=au (show (ps.take (i+1)).map (·.take 10)=(ps.take i).map (·.take 10)++[x.take 10] by rw [pI,hx,co];rfl)
     have Hlt:=au (cD hlt hl2)
     generalize (ps.take i).map (·.take 10)=q at *
     clear hlt hl2 hi hil H
     repeat' first | refine st ?_ | (refine br ?_ ?_<;>intro hb) | refine sd ?_ | apply aE | (apply aO;(· decide +kernel)) | refine bd ?_ ?_ | fail
     refine fq HO.out 3 [1,2,3,4] rfl ss ss ss ?_
     simp only [ae,ao]
     refine HI.out (i+1) _ _ (by have:=Hlt.out.2;omega) ⟨Hlt.out.2,Hlt.out.1,ss,ss,ss,ss,ss, ?_⟩
     rw [Ht.out,co];first | done | rfl
    ·have h2:decide ((i:Int)<20)=false:=by simp only [decide_eq_false_iff_not];omega
     have ht:ps.take i=ps.take 20:=by congr 1;omega
     have hh:=H.out
     simp only [mK,Ev.av,hit,htx,← ht] at hh
     clear hlt hl2 hi hil H HI hit htx ht
     repeat' first | refine st ?_ | (refine br ?_ ?_<;>intro hb) | fail
     refine fR Tryz.results14 ?_
     exact hh
   ·have h1:decide ((i:Int)<(ps.length:Int))=false:=by simpa using hlt
    have ht:ps.take i=ps.take 20:=by rw [dW (by omega),dW (by omega)]
    have hh:=H.out
    simp only [mK,Ev.av,hit,htx,← ht] at hh
    clear hlt hi hil H HI hit htx ht
    repeat' first | refine st ?_ | (refine br ?_ ?_<;>intro hb) | fail
    refine fR Tryz.results14 ?_
    exact hh
theorem B4 {e:Ev} (h:lj e=true):(td e).length≤16:=by
 unfold lj ep at h
 simp only [aB,decide_eq_true_eq] at h
 have hl:=h.2.1
 unfold td
 split
 ·simp
 ·split
  ·have:=jb (BS e.code);omega
  ·split
   ·have:=jb (BL ⟨0,e.inter,e.fin⟩);omega
   ·split
    ·unfold zk
     split
     ·next q _ =>
      cases q
      all_goals simp only [gH,ah,aj,bB,List.length_range]
      all_goals (try omega)
      ·split<;>simp
      ·unfold mQ
       split
       ·simp
       ·have:=pZ e.pars.length e.pars;omega
     ·simp
    ·split
     ·have:=jb (fO e.text);omega
     ·simp
theorem Bm (e:Ev):(wo e).length≤16∧(∀ a∈wo e,dU a=true∧yk a)∧(lj e=false→wo e=[]):=by
 unfold wo
 split
 ·next h =>
  refine⟨fb (List.length_filter_le _ _) (B4 h),fun a ha=>?_,fun hf=>by rw [h] at hf;cases hf⟩
  obtain⟨h1,h2⟩:=qU.1 ha
  exact⟨h2,Im h a h1⟩
 ·exact⟨by simp,by simp,fun _=>rfl⟩
theorem wQ (e:Ev):oI (mK e).pars∧(mK e).text.length≤600:=by
 refine⟨⟨by simp only [mK,bB,nV];omega,fun s hs=>?_⟩,by simp only [mK,nV];omega⟩
 obtain⟨x,_,rfl⟩:=aX.1 hs
 simp only [nV];omega
theorem Kn (w0:World) (hB:lx w0) (hAt:l6 w0) (S:List aH) (e:Ev) (R:Rt) (h:R (.ret (.bool true)) S):az Tryz.prog w0 6 [e.av] S R:=by
 have hwk:=vG w0 hB
 have hsh:=fun S'=>Ko w0 S' e
 obtain⟨f1,f2⟩:=wQ e
 have H:=au h
 have HOf:=au (fun (S':List aH) (e:Ev) (h1:oI e.pars) (h2:e.text.length≤600)=>Nr w0 hB.hM hB.hW hB.hQ hB.hP S' e h1 (by omega) (fun _ _ _=>E8 w0 hAt))
 have HCh:=au (fun (S':List aH) (a:Ac) (hb:yk a)=>ng w0 hB.hM hB.hW hB.hQ S' a ⟨by have:=hb.1;omega,by have:=hb.1;omega⟩ (by have:=hb.2;omega))
 clear h hB hAt
 generalize mK e=se at *
 obtain⟨k,c,pv,fi,ps,it,tx⟩:=se
 simp only at f1 f2
 have HF:=au (cD f1 f2)
 clear f1 f2
 obtain⟨ek,ec,epv,efi,eps,eit,etx⟩:=e
 simp only [Ev.av] at hsh ⊢
 refine eN Tryz.func6 rfl Tryz.ntmps6 fun hO=>?_
 have HO:=au hO
 clear hO
 repeat' first | refine st ?_ | (refine ca ?_;first | apply hwk | apply hsh) | (refine br ?_ ?_<;>intro hb) | fail
 clear hwk hsh
 refine dX (fun (i:Nat) env S'=>i≤8∧env 1000000=.dfr []∧env 1=.own S.length 0∧env 3=.int .i64 (i:Int)∧S'=S++[.cells [.int .i64 k,.int .i64 c,.int .u8 pv,.int .u8 fi,.sval false (ps.map dA),.str it,.str tx] none]) (fun i=>8 - i) 0 ?_ ?_
 ·exact⟨by omega,ss,ss,ss,ss⟩
 ·rintro i env S' ⟨hi,e0,e1,e3,rfl⟩ IH
  have HI:=au IH
  clear IH
  by_cases hlt:i<8
  ·have h1:decide ((i:Int)<8)=true:=by simp only [decide_eq_true_eq];omega
   have hw:ar.wrap ((i:Int)+1)=((i+1:Nat):Int):=by rw [ay _ (by omega)];omega
   have Hi:=au hlt
   clear hlt hi
   have hof:=fun S'=>HOf.out S' ⟨i,c,pv,fi,ps,it,tx⟩ HF.out.1 HF.out.2
   have hce:=fun S'=>x9 w0 S' ⟨i,c,pv,fi,ps,it,tx⟩ HF.out.1
   obtain⟨hl16,hLB,hL0⟩:=Bm ⟨i,c,pv,fi,ps,it,tx⟩
   generalize wo ⟨i,c,pv,fi,ps,it,tx⟩=L at *
   have d16:decide ((16:Int)<(L.length:Int))=false:=by simp only [decide_eq_false_iff_not];omega
   simp only [Ev.av] at hof hce
   cases hk:lj ⟨i,c,pv,fi,ps,it,tx⟩
   ·have hL:=hL0 hk
    subst hL
    rw [hk] at hof hce
    simp only [du,if_false,aL] at hof hce
    clear hk hL0 hLB hl16
    repeat' first | refine st ?_ | (refine ca ?_;first | apply hof | apply hce) | (refine br ?_ ?_<;>intro hb) | fail
    apply cP
    repeat' first | refine st ?_ | (refine br ?_ ?_<;>intro hb) | fail
    refine fq HO.out 1 [1,3] rfl ss ss ss ?_
    simp only [ae,ao]
    refine HI.out (i+1) _ _ (by have:=Hi.out;omega) ⟨by have:=Hi.out;omega,ss,ss,ss,ss⟩
   ·rw [hk] at hof hce
    simp only [if_true] at hof hce
    have HLB:=au hLB
    have Hl16:=au hl16
    have hd0:(L.map Ac.av).length=L.length:=by simp
    clear hk hL0 hLB hl16
    repeat' first | refine st ?_ | (refine ca ?_;first | apply hof | apply hce) | (refine br ?_ ?_<;>intro hb) | fail
    clear hof hce d16
    refine dX (fun (j:Nat) env S'=>j≤L.length∧env 1000000=.dfr []∧env 1=.own S.length 0∧env 3=.int .i64 (i:Int)∧env 5=.sval false (L.map Ac.av)∧env 7=.int .i64 (j:Int)∧S'=S++[.cells [.int .i64 k,.int .i64 c,.int .u8 pv,.int .u8 fi,.sval false (ps.map dA),.str it,.str tx] none,.cells [.int .i64 (i:Int),.int .i64 c,.int .u8 pv,.int .u8 fi,.sval false (ps.map dA),.str it,.str tx] none]) (fun j=>L.length - j) 0 ?_ ?_
    ·exact⟨bI _,ss,ss,ss,ss,ss,ss⟩
    ·clear e0 e1 e3
     rintro j env S' ⟨hj,e0,e1,e3,e5,e7,rfl⟩ IH
     have HJ:=au IH
     clear IH
     by_cases hlt:j<L.length
     ·obtain⟨a,hx⟩:∃ a,L[j]? = some a:=⟨_,aC hlt⟩
      have h2:decide ((j:Int)<(L.length:Int))=true:=by simpa using hlt
      have hw2:ar.wrap ((j:Int)+1)=((j+1:Nat):Int):=by have:=Hl16.out;rw [ay _ (by omega)];omega
      obtain⟨g1,g2⟩:=HLB.out a (aI hx)
      have hc:=fun S'=>HCh.out S' a g2
      rw [g1] at hc
      simp only [if_true] at hc
      have Hlt:=au hlt
      obtain⟨k1,k2,k3,k4,k5,k6⟩:=a
      have hav:Ac.av ⟨k1,k2,k3,k4,k5,k6⟩=.agg [.int .i64 k1,.int .i64 k2,.int .i64 k3,.int .i64 k4,.int .i64 k5,.str k6]:=rfl
      rw [hav] at hc
      clear hlt hj g1 g2 hw h1
      repeat' first | refine st ?_ | (refine ca ?_;apply hc) | (refine br ?_ ?_<;>intro hb) | fail
      refine HJ.out (j+1) _ _ (by have:=Hlt.out;omega) ⟨Hlt.out,ss,ss,ss,ss,ss,ss⟩
     ·have h2:decide ((j:Int)<(L.length:Int))=false:=by simpa using hlt
      clear hlt hj HJ
      repeat' first | refine st ?_ | (refine br ?_ ?_<;>intro hb) | fail
      refine fq HO.out 1 [1,3] rfl ss ss ss ?_
      simp only [ae,ao]
      refine HI.out (i+1) _ _ (by have:=Hi.out;omega) ⟨by have:=Hi.out;omega,ss,ss,ss,ss⟩
  ·have h1:decide ((i:Int)<8)=false:=by simp only [decide_eq_false_iff_not];omega
   clear hlt hi HI
   repeat' first | refine st ?_ | (refine br ?_ ?_<;>intro hb) | fail
   refine fR Tryz.results6 ?_
   exact H.out
theorem Ks {W:World}{nm:String}{g:Nat}{cs:Array Value} (hg:Tryz.prog.globalNamed nm=some g) (h:W.var? Tryz.prog nm=some cs) (hall:cs.toList.all zB=true):gl W g=.pro (cs.toList.map sr):=by
 unfold World.var? at h
 rw [hg] at h
 simp only [Iu] at h
 unfold gl
 split at h
 ·next c T fz hh =>
  cases h
  rw [hh]
  simp only [hall,if_true]
 ·cases h
theorem L0:Tryz.prog.globalNamed "fenestra/sgr.attrs" = some 3:=by kernel_rfl
theorem KM {W:World} (h:laidMetH Tryz.prog bW W):l6 W:=by
 rw [MakeChecks.laidMetH_plain _ _ _ (by kernel_rfl)] at h
 obtain⟨ps,hl,_⟩:=h
 obtain⟨g,t,cs,fuel,p,h1,h2,h3,h4⟩:=jE (nm := "fenestra/sgr.attrs") (d:=Rows.laid_fenestra_sgr_attrs) hl (by simp [bW])
 obtain rfl:=bp (L0.symm.trans h1)
 obtain rfl:=bp ((show (Tryz.prog.globals[3]?).map (·.type)=some 308 by kernel_rfl).symm.trans h2)
 have h5:=AU fuel 5 308 (Sk.rep (.cons (.int .i64) (.cons (.int .i64) (.cons (.int .i64) .nil))) 8) _ _ (by kernel_rfl) rfl h4 (fuel+5) (by omega)
 unfold l6
 rw [Ks L0 h3 (by rw [← h5];rfl),← h5]
 rfl
theorem GX:∀ els:List (List AV),(∀ y∈els,(Sk.int .i64).has y)→∃ l:List Int,els.map (Sk.int .i64).mk=l.map gB:=by
 intro els
 induction els with
 | nil=>intro _;exact⟨[],rfl⟩
 | cons y els ih =>
  intro hh
  obtain⟨x,rfl,_⟩:=hh y (dL ..)
  obtain⟨l,hl⟩:=ih fun z hz=>hh z (ia _ hz)
  exact⟨x::l,by simp only [aG,hl];rfl⟩
def FW:Sk:=.cons (.sl (.int .i64)) .nil
def GR:Sk:=.cons (.int .i64) (.cons (.int .i64) (.cons (.int .u8) (.cons (.int .u8) (.cons (.sl FW) (.cons .str (.cons .str .nil))))))
theorem Ky:∀ els:List (List AV),(∀ y∈els,FW.has y)→∃ l:List (List Int),els.map FW.mk=l.map dA:=by
 intro els
 induction els with
 | nil=>intro _;exact⟨[],rfl⟩
 | cons y els ih =>
  intro hh
  obtain⟨_,_,rfl,⟨zs,rfl,_,hz⟩,rfl⟩:=hh y (dL ..)
  obtain⟨l,hl⟩:=ih fun z hz=>hh z (ia _ hz)
  obtain⟨s,hs⟩:=GX zs hz
  refine⟨s::l, ?_⟩
  simp only [aG,hl]
  congr 1
  simp only [FW,Sk.mk,Sk.isAgg,if_true,dA,aP,hs]
theorem F_ (y:List AV) (h:GR.has y):∃ e:Ev,GR.mk y=e.av:=by
 obtain⟨_,_,rfl,⟨a,rfl,_⟩,_,_,rfl,⟨b,rfl,_⟩,_,_,rfl,⟨c,rfl,hc⟩,_,_,rfl,⟨d,rfl,hd⟩,_,_,rfl,⟨els,rfl,_,he⟩,_,_,rfl,⟨s,rfl,_⟩,_,_,rfl,⟨t,rfl,_⟩,rfl⟩:=h
 obtain⟨l,hl⟩:=Ky els he
 refine⟨⟨a,b,c.toNat,d.toNat,l,s,t⟩, ?_⟩
 simp [Sk.mk,GR,Sk.isAgg,Ev.av,lF hc rfl,lF hd rfl,hl]
end Go.Proofs.YthdbijpefkapnaaGreatDoor
