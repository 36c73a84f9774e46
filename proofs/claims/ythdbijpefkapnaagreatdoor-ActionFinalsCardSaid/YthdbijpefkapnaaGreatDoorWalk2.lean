/- YthdbijpefkapnaaGreatDoorWalk2: a part of the proof. -/
import Derived.Test.YthdbijpefkapnaaGreatDoorWalk1
import Derived.Test.YthdbijpefkapnaaGreatDoorWalk3
import Derived.Test.YthdbijpefkapnaaGreatDoorWalk5
import Derived.Test.YthdbijpefkapnaaGreatDoorWalk8
set_option linter.all false
set_option maxHeartbeats 40000000
open Bool renaming and_eq_false_iff → gp, and_eq_true → ao, and_true → cu, true_eq_false → k_
open Go.IntKind renaming i64 → ae
open Go.IntWalk renaming i64_in → ah
open Go.Lib renaming hid → ab
open Int renaming eq_ofNat_of_zero_le → ng
open List renaming all_cons → z7, drop_succ_cons → dh, drop_zero → cJ, getD_cons_succ → b7, getD_cons_zero → bE, getElem?_eq_getElem → al, length_cons → aB, length_eq_one_iff → p8, length_nil → aL, map_cons → ap, map_nil → aq, mem_of_getElem? → ax, take_add_one → sC, take_length → bt
open Nat renaming reduceAdd → cM, two_pow_add_eq_or_of_lt → ua, zero_add → bC, zero_le → bf
namespace Go.Proofs.YthdbijpefkapnaaGreatDoor
open Go Go.Fen Go.Proofs.Tryz
attribute [local irreducible] aW WP aj dS jl cQ aV cV
set_option maxRecDepth 8000
variable (w0:World) (S:List aH)
def df(n m:Int):Ac:=⟨39,n,m,0,0,[]⟩
def dC(n k c:Int):Ac:=⟨39,n,0,k,c,[]⟩
def ir(v:Int):Option Ac :=
 if v=0 then some (df 0 0) else if v=1 then some (df 1 1) else if v=2 then some (df 1 2) else if v=3 then some (df 1 4) else if v=4 then some (df 3 1) else if v=5∨v=6 then some (df 1 8)
 else if v=7 then some (df 1 16) else if v=8 then some (df 1 32) else if v=9 then some (df 1 64) else if v=53 then some (df 1 128)
 else if v=22 then some (df 2 3) else if v=23 then some (df 2 4) else if v=25 then some (df 2 8) else if v=27 then some (df 2 16) else if v=28 then some (df 2 32) else if v=29 then some (df 2 64) else if v=55 then some (df 2 128)
 else if v=21 then some (df 3 2) else if v=24 then some (df 3 0) else if v=39 then some (df 4 0) else if v=49 then some (df 5 0) else if v=59 then some (df 6 0)
 else if 30≤v∧v≤37 then some (dC 4 1 (v - 30)) else if 40≤v∧v≤47 then some (dC 5 1 (v - 40)) else if 90≤v∧v≤97 then some (dC 4 1 (v - 82)) else if 100≤v∧v≤107 then some (dC 5 1 (v - 92)) else none
def bR(v:Int):Option Int:=if v=38 then some 4 else if v=48 then some 5 else if v=58 then some 6 else none
def m5(l:List Int):Bool:=l.all fun n=>decide (0≤n)&&decide (n≤255)
def dG(n how:Int)(l:List Int):Option Ac :=
 if m5 l=false then none else if how=5∧l.length=1 then some (dC n 1 (l.getD 0 0)) else if how=2∧l.length=3 then some (dC n 2 (l.getD 0 0 * 65536+l.getD 1 0 * 256+l.getD 2 0)) else none
def dy(s:List Int):Option Ac :=
 if max 0 (s.getD 0 0)=4∧s.length=2 then (if 0≤s.getD 1 0∧s.getD 1 0≤5 then some (df 3 (s.getD 1 0)) else none)
 else match bR (max 0 (s.getD 0 0)) with
  | none=>none
  | some n=>if s.length=6∧s.getD 1 0=2 then dG n 2 (s.drop 3) else if 2<s.length then dG n (s.getD 1 0) (s.drop 2) else none
def dD:List (List Int)→List Int
 | [n]::r=>max 0 n::dD r
 | _=>[]
def dM(l:List (List Int)):Option Ac × Nat :=
 match dD l with
 | []=>(dy (l.headD []),1)
 | v::r=>match bR v,r with
  | some n,h::t =>
   if h=5 then (if 1≤t.length then (dG n 5 (t.take 1),3) else (none,min 3 l.length))
   else if h=2 then (if 3≤t.length then (dG n 2 (t.take 3),5) else (none,min 5 l.length))
   else (ir v,1)
  | _,_=>(ir v,1)
def gR:Nat→List (List Int)→List Ac
 | 0,_=>[]
 | k+1,l=>if l=[] then [] else (dM l).1.toList++gR k (l.drop (dM l).2)
def jS(l:List (List Int)):List Ac:=if l=[] then [df 0 0] else gR l.length l
theorem IJ(n m:Int)(R:Rt)(h:R (.ret (df n m).av) S):aj prog w0 210 [.int .i64 n,.int .i64 m] S R:=by
 unfold df Ac.av at h
 refine eN func210 rfl ntmps210 fun hO=>?_
 repeat' first|refine st ?_|(refine br ?_ ?_<;>intro hb)|fail
 refine fR results210 ?_
 exact h
theorem wj(n k c:Int)(R:Rt)(h:R (.ret (dC n k c).av) S):aj prog w0 294 [.int .i64 n,.int .i64 k,.int .i64 c] S R:=by
 unfold dC Ac.av at h
 refine eN func294 rfl ntmps294 fun hO=>?_
 repeat' first|refine st ?_|(refine br ?_ ?_<;>intro hb)|fail
 refine fR results294 ?_
 exact h
def rz:Option Ac→List AV
 | some a=>[a.av,.bool true]
 | none=>[.agg [.int .i64 0,.int .i64 0,.int .i64 0,.int .i64 0,.int .i64 0,.str []],.bool false]
def qh:Option Int→List AV
 | some n=>[.int .i64 n,.bool true]
 | none=>[.int .i64 0,.bool false]
theorem Aw(v:Int)(R:Rt)(h:R (.ret (.tup (qh (bR v)))) S):aj prog w0 297 [.int .i64 v] S R:=by
 unfold bR at h
 by_cases c1:v=38
 ·subst c1
  refine eN func297 rfl ntmps297 fun hO=>?_
  repeat' first|refine st ?_|(refine br ?_ ?_<;>intro hb)|fail
  refine fR results297 ?_
  exact h
 by_cases c2:v=48
 ·subst c2
  refine eN func297 rfl ntmps297 fun hO=>?_
  repeat' first|refine st ?_|(refine br ?_ ?_<;>intro hb)|fail
  refine fR results297 ?_
  exact h
 by_cases c3:v=58
 ·subst c3
  refine eN func297 rfl ntmps297 fun hO=>?_
  repeat' first|refine st ?_|(refine br ?_ ?_<;>intro hb)|fail
  refine fR results297 ?_
  exact h
 rw [if_neg c1,if_neg c2,if_neg c3] at h
 have d1:(v==38)=false:=by simpa using c1
 have d2:(v==48)=false:=by simpa using c2
 have d3:(v==58)=false:=by simpa using c3
 clear c1 c2 c3
 refine eN func297 rfl ntmps297 fun hO=>?_
 repeat' first|refine st ?_|(refine br ?_ ?_<;>intro hb)|fail
 refine fR results297 ?_
 exact h
theorem vZ{α:Type}{p:α→Bool}{l:List α}{k:Nat}{x:α}(hx:l[k]? = some x)(h:(l.take k).all p=true)(hp:p x=true):(l.take (k+1)).all p=true:=by
 rw [sC,hx]
 simp [h,hp]
theorem D0{α:Type}{p:α→Bool}{l:List α}{k:Nat}{x:α}(hx:l[k]? = some x)(hp:p x=false):l.all p=false :=
 List.all_eq_false.2 ⟨x,ax hx,by simp [hp]⟩
def w1(n:Int):Bool:=decide (0≤n)&&decide (n≤255)
theorem Gg(l:List Int)(hl:l.length≤1000000)(R:Rt)(h:R (.ret (.bool (m5 l))) S):aj prog w0 321 [.sval false (l.map eE)] S R:=by
 refine eN func321 rfl ntmps321 fun hO=>?_
 repeat' first|refine st ?_|(refine br ?_ ?_<;>intro hb)|fail
 refine cW (fun (k:Nat) env S'=>k≤l.length∧(l.take k).all w1=true∧env 1000000=.dfr []∧env 5=.sval false (l.map eE)∧env 6=.int .i64 l.length∧env 7=.int .i64 (k:Int)∧S'=S) (fun k=>l.length - k) 0 ?_ ?_
 ·exact⟨bf _,by simp,ss,ss,ss,ss,ss⟩
 ·rintro k env S' ⟨hk,hp,e0,f5,f6,f7,rfl⟩ IH
  have HI:=ab IH
  have H:=ab h
  clear IH h
  by_cases hlt:k<l.length
  ·obtain⟨x,hx⟩:∃ x,l[k]? = some x:=⟨_,al hlt⟩
   have h1:decide ((k:Int)<(l.length:Int))=true:=by simpa using hlt
   have hw:ae.wrap ((k:Int)+1)=((k+1:Nat):Int):=by rw [ah _ (by omega)];omega
   have hc:eE x=.int .i64 x:=rfl
   cases hbx:w1 x with
   | false =>
    have hh:=H.out
    rw [show m5 l=l.all w1 from rfl,D0 hx hbx] at hh
    unfold w1 at hbx
    cases c1:decide (x<0) with
    | true =>
     clear hk hp hlt HI hl hbx
     repeat' first|refine st ?_|(refine br ?_ ?_<;>intro hb)|fail
     refine fR results321 ?_
     exact hh
    | false =>
     have c2:decide ((255:Int)<x)=true:=by
      simp only [gp,decide_eq_false_iff_not,decide_eq_true_eq] at hbx c1 ⊢
      omega
     clear hk hp hlt HI hl hbx
     repeat' first|refine st ?_|(refine br ?_ ?_<;>intro hb)|fail
     refine fR results321 ?_
     exact hh
   | true =>
    have Hn:=ab (vZ hx hp hbx)
    have Hlt:=ab hlt
    unfold w1 at hbx
    simp only [ao,decide_eq_true_eq] at hbx
    have c1:decide (x<0)=false:=by simp only [decide_eq_false_iff_not];omega
    have c2:decide ((255:Int)<x)=false:=by simp only [decide_eq_false_iff_not];omega
    clear hk hp hlt hbx
    repeat' first|refine st ?_|(refine br ?_ ?_<;>intro hb)|fail
    refine HI.out (k+1) _ _ (by have:=Hlt.out;omega) ⟨Hlt.out,Hn.out, ?_, ?_, ?_, ?_,rfl⟩
    all_goals (simp only [go_sem, *];try rfl)
  ·have h1:decide ((k:Int)<(l.length:Int))=false:=by simpa using hlt
   have hk':k=l.length:=by omega
   rw [hk',bt] at hp
   have hh:=H.out
   rw [show m5 l=l.all w1 from rfl,hp] at hh
   clear hlt hk hk' HI hp
   repeat' first|refine st ?_|(refine br ?_ ?_<;>intro hb)|fail
   refine fR results321 ?_
   exact hh
theorem Jb{x y z:Nat}(hy:y<256)(hz:z<256):(x * 65536 ||| y * 256) ||| z=x * 65536+y * 256+z:=by
 have e1:x * 65536 ||| y * 256=x * 65536+y * 256:=by
  have:=ua (i:=16) (b:=y * 256) (by omega) x
  rw [Nat.mul_comm] at this
  exact this.symm
 rw [e1]
 have:=ua (i:=8) (b:=z) (by omega) (x * 256+y)
 rw [show 2 ^ 8 * (x * 256+y)=x * 65536+y * 256 by omega] at this
 exact this.symm
theorem nw(n how:Int)(l:List Int)(hl:l.length≤1000000)(R:Rt)(h:R (.ret (.tup (rz (dG n how l)))) S):aj prog w0 298 [.int .i64 n,.int .i64 how,.sval false (l.map eE)] S R:=by
 have hwi:=fun S'=>Gg w0 S' l hl
 have hco:=wj w0
 unfold dG at h
 cases hw:m5 l with
 | false =>
  rw [hw] at h hwi
  clear hco
  refine eN func298 rfl ntmps298 fun hO=>?_
  repeat' first|refine st ?_|(refine ca ?_;apply hwi)|(refine br ?_ ?_<;>intro hb)|fail
  refine fR results298 ?_
  exact h
 | true =>
  rw [hw] at h hwi
  simp only [k_,if_false] at h
  by_cases c1:how=5∧l.length=1
  ·obtain⟨rfl,hl1⟩:=c1
   obtain⟨x,rfl⟩:=p8.1 hl1
   have hc:eE x=.int .i64 x:=rfl
   unfold dC Ac.av at hco
   clear hl1 hl
   simp only [ap,aq] at hwi ⊢
   refine eN func298 rfl ntmps298 fun hO=>?_
   repeat' first|refine st ?_|(refine ca ?_;first|apply hwi|apply hco)|(refine br ?_ ?_<;>intro hb)|fail
   refine fR results298 ?_
   exact h
  ·rw [if_neg c1] at h
   by_cases c2:how=2∧l.length=3
   ·obtain⟨rfl,hl1⟩:=c2
    match l,hl1 with
    | [x,y,z],_ =>
     rw [if_pos ⟨rfl,rfl⟩] at h
     unfold m5 at hw
     simp only [z7,List.all_nil,cu,ao,decide_eq_true_eq] at hw
     obtain⟨hx,hy,hz⟩:=hw
     obtain⟨a,rfl⟩:=ng hx.1
     obtain⟨b,rfl⟩:=ng hy.1
     obtain⟨c,rfl⟩:=ng hz.1
     have k1:ae.wrap ((a:Int) * 2 ^ min 16 64)=((a * 65536:Nat):Int):=by rw [show (2:Int) ^ min 16 64=65536 by decide,ah _ (by omega)];omega
     have k2:ae.wrap ((b:Int) * 2 ^ min 8 64)=((b * 256:Nat):Int):=by rw [show (2:Int) ^ min 8 64=256 by decide,ah _ (by omega)];omega
     obtain⟨o1,q1⟩:=LO (a:=a * 65536) (b:=b * 256) (by omega) (by omega)
     obtain⟨o2,_⟩:=LO (a:=a * 65536 ||| b * 256) (b:=c) q1 (by omega)
     rw [Jb (by omega) (by omega)] at o2
     have ha:eE (a:Int)=.int .i64 a:=rfl
     have hb:eE (b:Int)=.int .i64 b:=rfl
     have hc:eE (c:Int)=.int .i64 c:=rfl
     have c0:((2:Int)==5)=false:=by decide
     rw [← o1] at o2
     clear o1
     have hh:(a:Int) * 65536+(b:Int) * 256+(c:Int)=((a * 65536+b * 256+c:Nat):Int):=by omega
     simp only [bE,b7,hh] at h
     have O2:=ab o2
     clear hx hy hz hl c1 q1 hh o2
     unfold dC Ac.av at hco
     simp only [ap,aq] at hwi ⊢
     refine eN func298 rfl ntmps298 fun hO=>?_
     repeat' first|refine st ?_|(refine ca ?_;first|apply hwi|apply hco)|(refine br ?_ ?_<;>intro hb)|refine sd ?_|apply au|(apply aF;(· decide +kernel))|refine bd ?_ ?_|(refine cd ?_;first|apply hwi|apply hco)|fail
     refine fR results298 ?_
     exact(congrArg (fun z=>R (.ret (.tup [.agg [.int .i64 39,.int .i64 n,.int .i64 0,.int .i64 2,.int .i64 z,.str []],.bool true])) S) O2.out).mpr h
   ·rw [if_neg c2] at h
    clear hco
    cases d1:(how==5) with
    | true =>
     have e1:how=5:=by simpa using d1
     subst e1
     have d2:((l.length:Int)==1)=false:=by simp only [beq_eq_false_iff_ne];omega
     clear c1 c2 hl
     refine eN func298 rfl ntmps298 fun hO=>?_
     repeat' first|refine st ?_|(refine ca ?_;apply hwi)|(refine br ?_ ?_<;>intro hb)|fail
     refine fR results298 ?_
     exact h
    | false =>
     cases d3:(how==2) with
     | true =>
      have e1:how=2:=by simpa using d3
      subst e1
      have d2:((l.length:Int)==3)=false:=by simp only [beq_eq_false_iff_ne];omega
      clear c1 c2 hl
      refine eN func298 rfl ntmps298 fun hO=>?_
      repeat' first|refine st ?_|(refine ca ?_;apply hwi)|(refine br ?_ ?_<;>intro hb)|fail
      refine fR results298 ?_
      exact h
     | false =>
      clear c1 c2 hl
      refine eN func298 rfl ntmps298 fun hO=>?_
      repeat' first|refine st ?_|(refine ca ?_;apply hwi)|(refine br ?_ ?_<;>intro hb)|fail
      refine fR results298 ?_
      exact h
def PR(R:Rt)(S:List aH)(o:Option Ac):Prop:=match o with
 | some a=>R (.ret (.tup [a.av,.bool true])) S
 | none=>∀ a:Ac,R (.ret (.tup [a.av,.bool false])) S
theorem E9(x0:Int)(R:Rt)(h:PR R S (dy [x0])):aj prog w0 296 [.sval false [.int .i64 x0]] S R:=by
 have hm:(if x0>0 then x0 else 0)=max 0 x0:=by split<;>omega
 have hof:=fun S'=>Aw w0 S' (max 0 x0)
 unfold dy at h
 simp only [bE,b7,aB,aL,bC,cM,dh,cJ] at h
 generalize max 0 x0=v at *
 rw [if_neg (by simp)] at h
 cases hw:bR v with
 | none =>
  rw [hw] at h hof
  simp only [qh,PR] at h hof
  clear hw
  cases d4:(v==4)
  all_goals
   refine eN func296 rfl ntmps296 fun hO=>?_
   repeat' first|refine st ?_|(refine ca ?_;apply hof)|(refine br ?_ ?_<;>intro hb)|fail
   refine fR results296 ?_
   exact h ⟨0,0,0,0,0,[]⟩
 | some n =>
  rw [hw] at h hof
  simp only at h
  have d4:(v==4)=false:=by
   simp only [beq_eq_false_iff_ne]
   rintro rfl
   simp [bR] at hw
  rw [if_neg (by simp),if_neg (by simp)] at h
  simp only [qh,PR] at h hof
  clear hw
  refine eN func296 rfl ntmps296 fun hO=>?_
  repeat' first|refine st ?_|(refine ca ?_;apply hof)|(refine br ?_ ?_<;>intro hb)|fail
  refine fR results296 ?_
  exact h ⟨0,0,0,0,0,[]⟩
theorem E8(x0 x1:Int)(R:Rt)(h:PR R S (dy [x0,x1])):aj prog w0 296 [.sval false [.int .i64 x0,.int .i64 x1]] S R:=by
 have hm:(if x0>0 then x0 else 0)=max 0 x0:=by split<;>omega
 have hof:=fun S'=>Aw w0 S' (max 0 x0)
 unfold dy at h
 simp only [bE,b7,aB,aL,bC,cM,dh,cJ] at h
 generalize max 0 x0=v at *
 by_cases c4:v=4
 ·have hpn:=IJ w0
  rw [if_pos ⟨c4,trivial⟩] at h
  have d4:(v==4)=true:=by simpa using c4
  unfold df Ac.av at hpn
  clear hof c4
  cases c0:decide ((0:Int)≤x1) with
  | false =>
   rw [if_neg (by simp only [decide_eq_false_iff_not] at c0;omega)] at h
   refine eN func296 rfl ntmps296 fun hO=>?_
   repeat' first|refine st ?_|(refine ca ?_;apply hpn)|(refine br ?_ ?_<;>intro hb)|refine sd ?_|apply au|(apply aF;(· decide +kernel))|refine bd ?_ ?_|(refine cd ?_;apply hpn)|fail
   refine fR results296 ?_
   exact h ⟨39,3,x1,0,0,[]⟩
  | true =>
   cases c5:decide (x1≤5) with
   | false =>
    rw [if_neg (by simp only [decide_eq_false_iff_not] at c5;omega)] at h
    refine eN func296 rfl ntmps296 fun hO=>?_
    repeat' first|refine st ?_|(refine ca ?_;apply hpn)|(refine br ?_ ?_<;>intro hb)|refine sd ?_|apply au|(apply aF;(· decide +kernel))|refine bd ?_ ?_|(refine cd ?_;apply hpn)|fail
    refine fR results296 ?_
    exact h ⟨39,3,x1,0,0,[]⟩
   | true =>
    rw [if_pos (by simp only [decide_eq_true_eq] at c0 c5;omega)] at h
    unfold PR df Ac.av at h
    refine eN func296 rfl ntmps296 fun hO=>?_
    repeat' first|refine st ?_|(refine ca ?_;apply hpn)|(refine br ?_ ?_<;>intro hb)|refine sd ?_|apply au|(apply aF;(· decide +kernel))|refine bd ?_ ?_|(refine cd ?_;apply hpn)|fail
    refine fR results296 ?_
    exact h
 rw [if_neg (fun e=>c4 e.1)] at h
 have d4:(v==4)=false:=by simpa using c4
 clear c4
 cases hw:bR v with
 | none =>
  rw [hw] at h hof
  simp only [qh,PR] at h hof
  clear hw
  refine eN func296 rfl ntmps296 fun hO=>?_
  repeat' first|refine st ?_|(refine ca ?_;apply hof)|(refine br ?_ ?_<;>intro hb)|fail
  refine fR results296 ?_
  exact h ⟨0,0,0,0,0,[]⟩
 | some n =>
  rw [hw] at h hof
  simp only at h
  rw [if_neg (by simp),if_neg (by simp)] at h
  simp only [qh,PR] at h hof
  clear hw
  refine eN func296 rfl ntmps296 fun hO=>?_
  repeat' first|refine st ?_|(refine ca ?_;apply hof)|(refine br ?_ ?_<;>intro hb)|fail
  refine fR results296 ?_
  exact h ⟨0,0,0,0,0,[]⟩
theorem E7(x0 x1 x2:Int)(R:Rt)(h:PR R S (dy [x0,x1,x2])):aj prog w0 296 [.sval false [.int .i64 x0,.int .i64 x1,.int .i64 x2]] S R:=by
 have hm:(if x0>0 then x0 else 0)=max 0 x0:=by split<;>omega
 have hof:=fun S'=>Aw w0 S' (max 0 x0)
 unfold dy at h
 simp only [bE,b7,aB,aL,bC,cM,dh,cJ] at h
 generalize max 0 x0=v at *
 rw [if_neg (by simp)] at h
 cases hw:bR v with
 | none =>
  rw [hw] at h hof
  simp only [qh,PR] at h hof
  clear hw
  cases d4:(v==4)
  all_goals
   refine eN func296 rfl ntmps296 fun hO=>?_
   repeat' first|refine st ?_|(refine ca ?_;apply hof)|(refine br ?_ ?_<;>intro hb)|fail
   refine fR results296 ?_
   exact h ⟨0,0,0,0,0,[]⟩
 | some n =>
  rw [hw] at h hof
  simp only at h
  have d4:(v==4)=false:=by
   simp only [beq_eq_false_iff_ne]
   rintro rfl
   simp [bR] at hw
  rw [if_neg (by simp),if_pos (by simp)] at h
  have hsh:=fun S'=>nw w0 S' n x1 [x2] (by simp)
  cases hs:dG n x1 [x2] with
  | none =>
   rw [hs] at h hsh
   simp only [rz,qh,PR,Ac.av,ap,aq,eE] at h hsh hof
   clear hs hw
   refine eN func296 rfl ntmps296 fun hO=>?_
   repeat' first|refine st ?_|(refine ca ?_;first|apply hof|apply hsh)|(refine br ?_ ?_<;>intro hb)|refine sd ?_|apply au|(apply aF;(· decide +kernel))|refine bd ?_ ?_|(refine cd ?_;first|apply hof|apply hsh)|fail
   refine fR results296 ?_
   exact h ⟨0,0,0,0,0,[]⟩
  | some a =>
   rw [hs] at h hsh
   obtain⟨ak,an,am,ack,acn,tx⟩:=a
   simp only [rz,qh,PR,Ac.av,ap,aq,eE] at h hsh hof
   clear hs hw
   refine eN func296 rfl ntmps296 fun hO=>?_
   repeat' first|refine st ?_|(refine ca ?_;first|apply hof|apply hsh)|(refine br ?_ ?_<;>intro hb)|refine sd ?_|apply au|(apply aF;(· decide +kernel))|refine bd ?_ ?_|(refine cd ?_;first|apply hof|apply hsh)|fail
   refine fR results296 ?_
   exact h
theorem E6(x0 x1 x2 x3:Int)(R:Rt)(h:PR R S (dy [x0,x1,x2,x3])):aj prog w0 296 [.sval false [.int .i64 x0,.int .i64 x1,.int .i64 x2,.int .i64 x3]] S R:=by
 have hm:(if x0>0 then x0 else 0)=max 0 x0:=by split<;>omega
 have hof:=fun S'=>Aw w0 S' (max 0 x0)
 unfold dy at h
 simp only [bE,b7,aB,aL,bC,cM,dh,cJ] at h
 generalize max 0 x0=v at *
 rw [if_neg (by simp)] at h
 cases hw:bR v with
 | none =>
  rw [hw] at h hof
  simp only [qh,PR] at h hof
  clear hw
  cases d4:(v==4)
  all_goals
   refine eN func296 rfl ntmps296 fun hO=>?_
   repeat' first|refine st ?_|(refine ca ?_;apply hof)|(refine br ?_ ?_<;>intro hb)|fail
   refine fR results296 ?_
   exact h ⟨0,0,0,0,0,[]⟩
 | some n =>
  rw [hw] at h hof
  simp only at h
  have d4:(v==4)=false:=by
   simp only [beq_eq_false_iff_ne]
   rintro rfl
   simp [bR] at hw
  rw [if_neg (by simp),if_pos (by simp)] at h
  have hsh:=fun S'=>nw w0 S' n x1 [x2,x3] (by simp)
  cases hs:dG n x1 [x2,x3] with
  | none =>
   rw [hs] at h hsh
   simp only [rz,qh,PR,Ac.av,ap,aq,eE] at h hsh hof
   clear hs hw
   refine eN func296 rfl ntmps296 fun hO=>?_
   repeat' first|refine st ?_|(refine ca ?_;first|apply hof|apply hsh)|(refine br ?_ ?_<;>intro hb)|refine sd ?_|apply au|(apply aF;(· decide +kernel))|refine bd ?_ ?_|(refine cd ?_;first|apply hof|apply hsh)|fail
   refine fR results296 ?_
   exact h ⟨0,0,0,0,0,[]⟩
  | some a =>
   rw [hs] at h hsh
   obtain⟨ak,an,am,ack,acn,tx⟩:=a
   simp only [rz,qh,PR,Ac.av,ap,aq,eE] at h hsh hof
   clear hs hw
   refine eN func296 rfl ntmps296 fun hO=>?_
   repeat' first|refine st ?_|(refine ca ?_;first|apply hof|apply hsh)|(refine br ?_ ?_<;>intro hb)|refine sd ?_|apply au|(apply aF;(· decide +kernel))|refine bd ?_ ?_|(refine cd ?_;first|apply hof|apply hsh)|fail
   refine fR results296 ?_
   exact h
theorem E5(x0 x1 x2 x3 x4:Int)(R:Rt)(h:PR R S (dy [x0,x1,x2,x3,x4])):aj prog w0 296 [.sval false [.int .i64 x0,.int .i64 x1,.int .i64 x2,.int .i64 x3,.int .i64 x4]] S R:=by
 have hm:(if x0>0 then x0 else 0)=max 0 x0:=by split<;>omega
 have hof:=fun S'=>Aw w0 S' (max 0 x0)
 unfold dy at h
 simp only [bE,b7,aB,aL,bC,cM,dh,cJ] at h
 generalize max 0 x0=v at *
 rw [if_neg (by simp)] at h
 cases hw:bR v with
 | none =>
  rw [hw] at h hof
  simp only [qh,PR] at h hof
  clear hw
  cases d4:(v==4)
  all_goals
   refine eN func296 rfl ntmps296 fun hO=>?_
   repeat' first|refine st ?_|(refine ca ?_;apply hof)|(refine br ?_ ?_<;>intro hb)|fail
   refine fR results296 ?_
   exact h ⟨0,0,0,0,0,[]⟩
 | some n =>
  rw [hw] at h hof
  simp only at h
  have d4:(v==4)=false:=by
   simp only [beq_eq_false_iff_ne]
   rintro rfl
   simp [bR] at hw
  rw [if_neg (by simp),if_pos (by simp)] at h
  have hsh:=fun S'=>nw w0 S' n x1 [x2,x3,x4] (by simp)
  cases hs:dG n x1 [x2,x3,x4] with
  | none =>
   rw [hs] at h hsh
   simp only [rz,qh,PR,Ac.av,ap,aq,eE] at h hsh hof
   clear hs hw
   refine eN func296 rfl ntmps296 fun hO=>?_
   repeat' first|refine st ?_|(refine ca ?_;first|apply hof|apply hsh)|(refine br ?_ ?_<;>intro hb)|refine sd ?_|apply au|(apply aF;(· decide +kernel))|refine bd ?_ ?_|(refine cd ?_;first|apply hof|apply hsh)|fail
   refine fR results296 ?_
   exact h ⟨0,0,0,0,0,[]⟩
  | some a =>
   rw [hs] at h hsh
   obtain⟨ak,an,am,ack,acn,tx⟩:=a
   simp only [rz,qh,PR,Ac.av,ap,aq,eE] at h hsh hof
   clear hs hw
   refine eN func296 rfl ntmps296 fun hO=>?_
   repeat' first|refine st ?_|(refine ca ?_;first|apply hof|apply hsh)|(refine br ?_ ?_<;>intro hb)|refine sd ?_|apply au|(apply aF;(· decide +kernel))|refine bd ?_ ?_|(refine cd ?_;first|apply hof|apply hsh)|fail
   refine fR results296 ?_
   exact h
theorem E4(x0 x1 x2 x3 x4 x5:Int)(R:Rt)(h:PR R S (dy [x0,x1,x2,x3,x4,x5])):aj prog w0 296 [.sval false [.int .i64 x0,.int .i64 x1,.int .i64 x2,.int .i64 x3,.int .i64 x4,.int .i64 x5]] S R:=by
 have hm:(if x0>0 then x0 else 0)=max 0 x0:=by split<;>omega
 have hof:=fun S'=>Aw w0 S' (max 0 x0)
 unfold dy at h
 simp only [bE,b7,aB,aL,bC,cM,dh,cJ] at h
 generalize max 0 x0=v at *
 rw [if_neg (by simp)] at h
 cases hw:bR v with
 | none =>
  rw [hw] at h hof
  simp only [qh,PR] at h hof
  clear hw
  cases d4:(v==4)
  all_goals
   refine eN func296 rfl ntmps296 fun hO=>?_
   repeat' first|refine st ?_|(refine ca ?_;apply hof)|(refine br ?_ ?_<;>intro hb)|fail
   refine fR results296 ?_
   exact h ⟨0,0,0,0,0,[]⟩
 | some n =>
  rw [hw] at h hof
  simp only at h
  have d4:(v==4)=false:=by
   simp only [beq_eq_false_iff_ne]
   rintro rfl
   simp [bR] at hw
  cases d2:(x1==2) with
  | true =>
   have e2:x1=2:=by simpa using d2
   rw [if_pos ⟨trivial,e2⟩] at h
   clear e2
   have hsh:=fun S'=>nw w0 S' n 2 [x3,x4,x5] (by simp)
   cases hs:dG n 2 [x3,x4,x5] with
   | none =>
    rw [hs] at h hsh
    simp only [rz,qh,PR,Ac.av,ap,aq,eE] at h hsh hof
    clear hs hw
    refine eN func296 rfl ntmps296 fun hO=>?_
    repeat' first|refine st ?_|(refine ca ?_;first|apply hof|apply hsh)|(refine br ?_ ?_<;>intro hb)|fail
    refine fR results296 ?_
    exact h ⟨0,0,0,0,0,[]⟩
   | some a =>
    rw [hs] at h hsh
    obtain⟨ak,an,am,ack,acn,tx⟩:=a
    simp only [rz,qh,PR,Ac.av,ap,aq,eE] at h hsh hof
    clear hs hw
    refine eN func296 rfl ntmps296 fun hO=>?_
    repeat' first|refine st ?_|(refine ca ?_;first|apply hof|apply hsh)|(refine br ?_ ?_<;>intro hb)|fail
    refine fR results296 ?_
    exact h
  | false =>
   have e2:x1≠2:=by simpa using d2
   rw [if_neg (fun e=>e2 e.2),if_pos (by simp)] at h
   clear e2
   have hsh:=fun S'=>nw w0 S' n x1 [x2,x3,x4,x5] (by simp)
   cases hs:dG n x1 [x2,x3,x4,x5] with
   | none =>
    rw [hs] at h hsh
    simp only [rz,qh,PR,Ac.av,ap,aq,eE] at h hsh hof
    clear hs hw
    refine eN func296 rfl ntmps296 fun hO=>?_
    repeat' first|refine st ?_|(refine ca ?_;first|apply hof|apply hsh)|(refine br ?_ ?_<;>intro hb)|refine sd ?_|apply au|(apply aF;(· decide +kernel))|refine bd ?_ ?_|(refine cd ?_;first|apply hof|apply hsh)|fail
    refine fR results296 ?_
    exact h ⟨0,0,0,0,0,[]⟩
   | some a =>
    rw [hs] at h hsh
    obtain⟨ak,an,am,ack,acn,tx⟩:=a
    simp only [rz,qh,PR,Ac.av,ap,aq,eE] at h hsh hof
    clear hs hw
    refine eN func296 rfl ntmps296 fun hO=>?_
    repeat' first|refine st ?_|(refine ca ?_;first|apply hof|apply hsh)|(refine br ?_ ?_<;>intro hb)|refine sd ?_|apply au|(apply aF;(· decide +kernel))|refine bd ?_ ?_|(refine cd ?_;first|apply hof|apply hsh)|fail
    refine fR results296 ?_
    exact h
end Go.Proofs.YthdbijpefkapnaaGreatDoor
