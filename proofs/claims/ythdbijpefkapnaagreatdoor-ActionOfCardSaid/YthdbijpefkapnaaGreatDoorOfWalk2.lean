/- A part of the proof. -/
import Derived.Test.YthdbijpefkapnaaGreatDoorOfWalk8
set_option linter.all false
set_option maxHeartbeats 40000000
open Bool renaming and_eq_false_iff → gF, and_eq_true → aq, and_true → cG, true_eq_false → lC
open Go.IntKind renaming i64 → ae
open Go.IntWalk renaming i64_in → ai
open Go.Lib renaming hid → ab
open Int renaming eq_ofNat_of_zero_le → nS
open List renaming all_cons → tL, drop_succ_cons → dw, drop_zero → cQ, getD_cons_succ → cj, getD_cons_zero → bI, getElem?_eq_getElem → ap, length_cons → aB, length_eq_one_iff → qJ, length_nil → aI, map_cons → al, map_nil → aj, mem_of_getElem? → ax, take_add_one → jW, take_length → bC
open Nat renaming reduceAdd → cW, two_pow_add_eq_or_of_lt → uX, zero_add → bG, zero_le → bf
namespace Go.Proofs.YthdbijpefkapnaaGreatDoor
open Go Go.Fen Go.Proofs.Tryz
attribute [local irreducible] aX WP ao dS i7 cJ aU cC
set_option maxRecDepth 8000
variable (w0:World) (S:List aH)
def dt(n m:Int):Ac:=⟨39,n,m,0,0,[]⟩
def dI(n k c:Int):Ac:=⟨39,n,0,k,c,[]⟩
def iU(v:Int):Option Ac :=
 if v=0 then some (dt 0 0) else if v=1 then some (dt 1 1) else if v=2 then some (dt 1 2) else if v=3 then some (dt 1 4) else if v=4 then some (dt 3 1) else if v=5∨v=6 then some (dt 1 8)
 else if v=7 then some (dt 1 16) else if v=8 then some (dt 1 32) else if v=9 then some (dt 1 64) else if v=53 then some (dt 1 128)
 else if v=22 then some (dt 2 3) else if v=23 then some (dt 2 4) else if v=25 then some (dt 2 8) else if v=27 then some (dt 2 16) else if v=28 then some (dt 2 32) else if v=29 then some (dt 2 64) else if v=55 then some (dt 2 128)
 else if v=21 then some (dt 3 2) else if v=24 then some (dt 3 0) else if v=39 then some (dt 4 0) else if v=49 then some (dt 5 0) else if v=59 then some (dt 6 0)
 else if 30≤v∧v≤37 then some (dI 4 1 (v - 30)) else if 40≤v∧v≤47 then some (dI 5 1 (v - 40)) else if 90≤v∧v≤97 then some (dI 4 1 (v - 82)) else if 100≤v∧v≤107 then some (dI 5 1 (v - 92)) else none
def bZ(v:Int):Option Int:=if v=38 then some 4 else if v=48 then some 5 else if v=58 then some 6 else none
def nN(l:List Int):Bool:=l.all fun n=>decide (0≤n)&&decide (n≤255)
def dP(n how:Int)(l:List Int):Option Ac :=
 if nN l=false then none else if how=5∧l.length=1 then some (dI n 1 (l.getD 0 0)) else if how=2∧l.length=3 then some (dI n 2 (l.getD 0 0 * 65536+l.getD 1 0 * 256+l.getD 2 0)) else none
def dD(s:List Int):Option Ac :=
 if max 0 (s.getD 0 0)=4∧s.length=2 then (if 0≤s.getD 1 0∧s.getD 1 0≤5 then some (dt 3 (s.getD 1 0)) else none)
 else match bZ (max 0 (s.getD 0 0)) with
  | none=>none
  | some n=>if s.length=6∧s.getD 1 0=2 then dP n 2 (s.drop 3) else if 2<s.length then dP n (s.getD 1 0) (s.drop 2) else none
def dK:List (List Int)→List Int
 | [n]::r=>max 0 n::dK r
 | _=>[]
def dX(l:List (List Int)):Option Ac × Nat :=
 match dK l with
 | []=>(dD (l.headD []),1)
 | v::r=>match bZ v,r with
  | some n,h::t =>
   if h=5 then (if 1≤t.length then (dP n 5 (t.take 1),3) else (none,min 3 l.length))
   else if h=2 then (if 3≤t.length then (dP n 2 (t.take 3),5) else (none,min 5 l.length))
   else (iU v,1)
  | _,_=>(iU v,1)
def hZ:Nat→List (List Int)→List Ac
 | 0,_=>[]
 | k+1,l=>if l=[] then [] else (dX l).1.toList++hZ k (l.drop (dX l).2)
def kq(l:List (List Int)):List Ac:=if l=[] then [dt 0 0] else hZ l.length l
theorem JZ(n m:Int)(R:Rt)(h:R (.ret (dt n m).av) S):ao prog w0 210 [.int .i64 n,.int .i64 m] S R:=by
 unfold dt Ac.av at h
 exact γR0 func210 ntmps210 results210 h
theorem xj(n k c:Int)(R:Rt)(h:R (.ret (dI n k c).av) S):ao prog w0 294 [.int .i64 n,.int .i64 k,.int .i64 c] S R:=by
 unfold dI Ac.av at h
 exact γR0 func294 ntmps294 results294 h
def sw:Option Ac→List AV
 | some a=>[a.av,.bool true]
 | none=>[.agg [.int .i64 0,.int .i64 0,.int .i64 0,.int .i64 0,.int .i64 0,.str []],.bool false]
def qT:Option Int→List AV
 | some n=>[.int .i64 n,.bool true]
 | none=>[.int .i64 0,.bool false]
theorem Bu(v:Int)(R:Rt)(h:R (.ret (.tup (qT (bZ v)))) S):ao prog w0 297 [.int .i64 v] S R:=by
 unfold bZ at h
 by_cases c1:v=38
 ·subst c1
  exact γR0 func297 ntmps297 results297 h
 by_cases c2:v=48
 ·subst c2
  exact γR0 func297 ntmps297 results297 h
 by_cases c3:v=58
 ·subst c3
  exact γR0 func297 ntmps297 results297 h
 rw [if_neg c1,if_neg c2,if_neg c3] at h
 have d1:(v==38)=false:=by simpa using c1
 have d2:(v==48)=false:=by simpa using c2
 have d3:(v==58)=false:=by simpa using c3
 clear c1 c2 c3
 exact γR0 func297 ntmps297 results297 h
theorem wZ{α:Type}{p:α→Bool}{l:List α}{k:Nat}{x:α}(hx:l[k]? = some x)(h:(l.take k).all p=true)(hp:p x=true):(l.take (k+1)).all p=true:=by
 rw [jW,hx]
 simp [h,hp]
theorem E4{α:Type}{p:α→Bool}{l:List α}{k:Nat}{x:α}(hx:l[k]? = some x)(hp:p x=false):l.all p=false :=
 List.all_eq_false.2 ⟨x,ax hx,by simp [hp]⟩
def w1(n:Int):Bool:=decide (0≤n)&&decide (n≤255)
theorem H7(l:List Int)(hl:l.length≤1000000)(R:Rt)(h:R (.ret (.bool (nN l))) S):ao prog w0 321 [.sval false (l.map ea)] S R:=by
 refine eN func321 rfl ntmps321 fun hO=>?_
 refine ε0 ?_
 refine cD (fun (k:Nat) env S'=>k≤l.length∧(l.take k).all w1=true∧env 1000000=.dfr []∧env 5=.sval false (l.map ea)∧env 6=.int .i64 l.length∧env 7=.int .i64 (k:Int)∧S'=S) (fun k=>l.length - k) 0 ?_ ?_
 ·exact⟨bf _,χ,ss,ss,ss,ss,ss⟩
 ·rintro k env S' ⟨hk,hp,e0,f5,f6,f7,rfl⟩ IH
  have HI:=ab IH
  have H:=ab h
  clear IH h
  by_cases hlt:k<l.length
  ·obtain⟨x,hx⟩:∃ x,l[k]? = some x:=⟨_,ap hlt⟩
   have h1:decide ((k:Int)<(l.length:Int))=true:=by simpa using hlt
   have hw:ae.wrap ((k:Int)+1)=((k+1:Nat):Int):=by rw [ai _ ω];omega
   have hc:ea x=.int .i64 x:=rfl
   cases hbx:w1 x with
   | false =>
    have hh:=H.out
    rw [show nN l=l.all w1 from rfl,E4 hx hbx] at hh
    unfold w1 at hbx
    cases c1:decide (x<0) with
    | true =>
     clear hk hp hlt HI hl hbx
     refine ε0 ?_
     refine fR results321 ?_
     exact hh
    | false =>
     have c2:decide ((255:Int)<x)=true:=by
      simp only [gF,decide_eq_false_iff_not,decide_eq_true_eq] at hbx c1 ⊢
      omega
     clear hk hp hlt HI hl hbx
     refine ε0 ?_
     refine fR results321 ?_
     exact hh
   | true =>
    have Hn:=ab (wZ hx hp hbx)
    have Hlt:=ab hlt
    unfold w1 at hbx
    simp only [aq,decide_eq_true_eq] at hbx
    have c1:decide (x<0)=false:=τ2
    have c2:decide ((255:Int)<x)=false:=τ2
    clear hk hp hlt hbx
    refine ε0 ?_
    refine HI.out (k+1) _ _ (by have:=Hlt.out;omega) ⟨Hlt.out,Hn.out, ?_, ?_, ?_, ?_,rfl⟩
    all_goals (simp only [go_sem, *];try rfl)
  ·have h1:decide ((k:Int)<(l.length:Int))=false:=by simpa using hlt
   have hk':k=l.length:=ω
   rw [hk',bC] at hp
   have hh:=H.out
   rw [show nN l=l.all w1 from rfl,hp] at hh
   clear hlt hk hk' HI hp
   refine ε0 ?_
   refine fR results321 ?_
   exact hh
theorem Ku{x y z:Nat}(hy:y<256)(hz:z<256):(x * 65536 ||| y * 256) ||| z=x * 65536+y * 256+z:=by
 have e1:x * 65536 ||| y * 256=x * 65536+y * 256:=by
  have:=uX (i:=16) (b:=y * 256) ω x
  rw [Nat.mul_comm] at this
  exact this.symm
 rw [e1]
 have:=uX (i:=8) (b:=z) ω (x * 256+y)
 rw [show 2 ^ 8 * (x * 256+y)=x * 65536+y * 256 by omega] at this
 exact this.symm
theorem n8(n how:Int)(l:List Int)(hl:l.length≤1000000)(R:Rt)(h:R (.ret (.tup (sw (dP n how l)))) S):ao prog w0 298 [.int .i64 n,.int .i64 how,.sval false (l.map ea)] S R:=by
 have hwi:=fun S'=>H7 w0 S' l hl
 have hco:=xj w0
 unfold dP at h
 cases hw:nN l with
 | false =>
  rw [hw] at h hwi
  clear hco
  exact γR1 hwi func298 ntmps298 results298 h
 | true =>
  rw [hw] at h hwi
  simp only [lC,if_false] at h
  by_cases c1:how=5∧l.length=1
  ·obtain⟨rfl,hl1⟩:=c1
   obtain⟨x,rfl⟩:=qJ.1 hl1
   have hc:ea x=.int .i64 x:=rfl
   unfold dI Ac.av at hco
   clear hl1 hl
   simp only [al,aj] at hwi ⊢
   exact γR2 hwi hco func298 ntmps298 results298 h
  ·rw [if_neg c1] at h
   by_cases c2:how=2∧l.length=3
   ·obtain⟨rfl,hl1⟩:=c2
    match l,hl1 with
    | [x,y,z],_ =>
     rw [if_pos ⟨rfl,rfl⟩] at h
     unfold nN at hw
     simp only [tL,List.all_nil,cG,aq,decide_eq_true_eq] at hw
     obtain⟨hx,hy,hz⟩:=hw
     obtain⟨a,rfl⟩:=nS hx.1
     obtain⟨b,rfl⟩:=nS hy.1
     obtain⟨c,rfl⟩:=nS hz.1
     have k1:ae.wrap ((a:Int) * 2 ^ min 16 64)=((a * 65536:Nat):Int):=by rw [show (2:Int) ^ min 16 64=65536 by decide,ai _ ω];omega
     have k2:ae.wrap ((b:Int) * 2 ^ min 8 64)=((b * 256:Nat):Int):=by rw [show (2:Int) ^ min 8 64=256 by decide,ai _ ω];omega
     obtain⟨o1,q1⟩:=Nh (a:=a * 65536) (b:=b * 256) ω ω
     obtain⟨o2,_⟩:=Nh (a:=a * 65536 ||| b * 256) (b:=c) q1 ω
     rw [Ku ω ω] at o2
     have ha:ea (a:Int)=.int .i64 a:=rfl
     have hb:ea (b:Int)=.int .i64 b:=rfl
     have hc:ea (c:Int)=.int .i64 c:=rfl
     have c0:((2:Int)==5)=false:=δ
     rw [← o1] at o2
     clear o1
     have hh:(a:Int) * 65536+(b:Int) * 256+(c:Int)=((a * 65536+b * 256+c:Nat):Int):=ω
     simp only [bI,cj,hh] at h
     have O2:=ab o2
     clear hx hy hz hl c1 q1 hh o2
     unfold dI Ac.av at hco
     simp only [al,aj] at hwi ⊢
     refine ΓR2 hwi hco func298 ntmps298 results298 ?_
     exact(congrArg (fun z=>R (.ret (.tup [.agg [.int .i64 39,.int .i64 n,.int .i64 0,.int .i64 2,.int .i64 z,.str []],.bool true])) S) O2.out).mpr h
   ·rw [if_neg c2] at h
    clear hco
    cases d1:(how==5) with
    | true =>
     have e1:how=5:=by simpa using d1
     subst e1
     have d2:((l.length:Int)==1)=false:=by simp only [beq_eq_false_iff_ne];omega
     clear c1 c2 hl
     exact γR1 hwi func298 ntmps298 results298 h
    | false =>
     cases d3:(how==2) with
     | true =>
      have e1:how=2:=by simpa using d3
      subst e1
      have d2:((l.length:Int)==3)=false:=by simp only [beq_eq_false_iff_ne];omega
      clear c1 c2 hl
      exact γR1 hwi func298 ntmps298 results298 h
     | false =>
      clear c1 c2 hl
      exact γR1 hwi func298 ntmps298 results298 h
def PR(R:Rt)(S:List aH)(o:Option Ac):Prop:=match o with
 | some a=>R (.ret (.tup [a.av,.bool true])) S
 | none=>∀ a:Ac,R (.ret (.tup [a.av,.bool false])) S
theorem Ga(x0:Int)(R:Rt)(h:PR R S (dD [x0])):ao prog w0 296 [.sval false [.int .i64 x0]] S R:=by
 have hm:(if x0>0 then x0 else 0)=max 0 x0:=by split<;>omega
 have hof:=fun S'=>Bu w0 S' (max 0 x0)
 unfold dD at h
 simp only [bI,cj,aB,aI,bG,cW,dw,cQ] at h
 generalize max 0 x0=v at *
 rw [if_neg χ] at h
 cases hw:bZ v with
 | none =>
  rw [hw] at h hof
  simp only [qT,PR] at h hof
  clear hw
  cases d4:(v==4)
  all_goals
   refine γR1 hof func296 ntmps296 results296 ?_
   exact h ⟨0,0,0,0,0,[]⟩
 | some n =>
  rw [hw] at h hof
  simp only at h
  have d4:(v==4)=false:=by
   simp only [beq_eq_false_iff_ne]
   rintro rfl
   simp [bZ] at hw
  rw [if_neg χ,if_neg χ] at h
  simp only [qT,PR] at h hof
  clear hw
  refine γR1 hof func296 ntmps296 results296 ?_
  exact h ⟨0,0,0,0,0,[]⟩
theorem F_(x0 x1:Int)(R:Rt)(h:PR R S (dD [x0,x1])):ao prog w0 296 [.sval false [.int .i64 x0,.int .i64 x1]] S R:=by
 have hm:(if x0>0 then x0 else 0)=max 0 x0:=by split<;>omega
 have hof:=fun S'=>Bu w0 S' (max 0 x0)
 unfold dD at h
 simp only [bI,cj,aB,aI,bG,cW,dw,cQ] at h
 generalize max 0 x0=v at *
 by_cases c4:v=4
 ·have hpn:=JZ w0
  rw [if_pos ⟨c4,trivial⟩] at h
  have d4:(v==4)=true:=by simpa using c4
  unfold dt Ac.av at hpn
  clear hof c4
  cases c0:decide ((0:Int)≤x1) with
  | false =>
   rw [if_neg (by simp only [decide_eq_false_iff_not] at c0;omega)] at h
   refine ΓR1 hpn func296 ntmps296 results296 ?_
   exact h ⟨39,3,x1,0,0,[]⟩
  | true =>
   cases c5:decide (x1≤5) with
   | false =>
    rw [if_neg (by simp only [decide_eq_false_iff_not] at c5;omega)] at h
    refine ΓR1 hpn func296 ntmps296 results296 ?_
    exact h ⟨39,3,x1,0,0,[]⟩
   | true =>
    rw [if_pos (by simp only [decide_eq_true_eq] at c0 c5;omega)] at h
    unfold PR dt Ac.av at h
    exact ΓR1 hpn func296 ntmps296 results296 h
 rw [if_neg (fun e=>c4 e.1)] at h
 have d4:(v==4)=false:=by simpa using c4
 clear c4
 cases hw:bZ v with
 | none =>
  rw [hw] at h hof
  simp only [qT,PR] at h hof
  clear hw
  refine γR1 hof func296 ntmps296 results296 ?_
  exact h ⟨0,0,0,0,0,[]⟩
 | some n =>
  rw [hw] at h hof
  simp only at h
  rw [if_neg χ,if_neg χ] at h
  simp only [qT,PR] at h hof
  clear hw
  refine γR1 hof func296 ntmps296 results296 ?_
  exact h ⟨0,0,0,0,0,[]⟩
theorem F9(x0 x1 x2:Int)(R:Rt)(h:PR R S (dD [x0,x1,x2])):ao prog w0 296 [.sval false [.int .i64 x0,.int .i64 x1,.int .i64 x2]] S R:=by
 have hm:(if x0>0 then x0 else 0)=max 0 x0:=by split<;>omega
 have hof:=fun S'=>Bu w0 S' (max 0 x0)
 unfold dD at h
 simp only [bI,cj,aB,aI,bG,cW,dw,cQ] at h
 generalize max 0 x0=v at *
 rw [if_neg χ] at h
 cases hw:bZ v with
 | none =>
  rw [hw] at h hof
  simp only [qT,PR] at h hof
  clear hw
  cases d4:(v==4)
  all_goals
   refine γR1 hof func296 ntmps296 results296 ?_
   exact h ⟨0,0,0,0,0,[]⟩
 | some n =>
  rw [hw] at h hof
  simp only at h
  have d4:(v==4)=false:=by
   simp only [beq_eq_false_iff_ne]
   rintro rfl
   simp [bZ] at hw
  rw [if_neg χ,if_pos χ] at h
  have hsh:=fun S'=>n8 w0 S' n x1 [x2] χ
  cases hs:dP n x1 [x2] with
  | none =>
   rw [hs] at h hsh
   simp only [sw,qT,PR,Ac.av,al,aj,ea] at h hsh hof
   clear hs hw
   refine ΓR2 hof hsh func296 ntmps296 results296 ?_
   exact h ⟨0,0,0,0,0,[]⟩
  | some a =>
   rw [hs] at h hsh
   obtain⟨ak,an,am,ack,acn,tx⟩:=a
   simp only [sw,qT,PR,Ac.av,al,aj,ea] at h hsh hof
   clear hs hw
   exact ΓR2 hof hsh func296 ntmps296 results296 h
theorem F8(x0 x1 x2 x3:Int)(R:Rt)(h:PR R S (dD [x0,x1,x2,x3])):ao prog w0 296 [.sval false [.int .i64 x0,.int .i64 x1,.int .i64 x2,.int .i64 x3]] S R:=by
 have hm:(if x0>0 then x0 else 0)=max 0 x0:=by split<;>omega
 have hof:=fun S'=>Bu w0 S' (max 0 x0)
 unfold dD at h
 simp only [bI,cj,aB,aI,bG,cW,dw,cQ] at h
 generalize max 0 x0=v at *
 rw [if_neg χ] at h
 cases hw:bZ v with
 | none =>
  rw [hw] at h hof
  simp only [qT,PR] at h hof
  clear hw
  cases d4:(v==4)
  all_goals
   refine γR1 hof func296 ntmps296 results296 ?_
   exact h ⟨0,0,0,0,0,[]⟩
 | some n =>
  rw [hw] at h hof
  simp only at h
  have d4:(v==4)=false:=by
   simp only [beq_eq_false_iff_ne]
   rintro rfl
   simp [bZ] at hw
  rw [if_neg χ,if_pos χ] at h
  have hsh:=fun S'=>n8 w0 S' n x1 [x2,x3] χ
  cases hs:dP n x1 [x2,x3] with
  | none =>
   rw [hs] at h hsh
   simp only [sw,qT,PR,Ac.av,al,aj,ea] at h hsh hof
   clear hs hw
   refine ΓR2 hof hsh func296 ntmps296 results296 ?_
   exact h ⟨0,0,0,0,0,[]⟩
  | some a =>
   rw [hs] at h hsh
   obtain⟨ak,an,am,ack,acn,tx⟩:=a
   simp only [sw,qT,PR,Ac.av,al,aj,ea] at h hsh hof
   clear hs hw
   exact ΓR2 hof hsh func296 ntmps296 results296 h
theorem F7(x0 x1 x2 x3 x4:Int)(R:Rt)(h:PR R S (dD [x0,x1,x2,x3,x4])):ao prog w0 296 [.sval false [.int .i64 x0,.int .i64 x1,.int .i64 x2,.int .i64 x3,.int .i64 x4]] S R:=by
 have hm:(if x0>0 then x0 else 0)=max 0 x0:=by split<;>omega
 have hof:=fun S'=>Bu w0 S' (max 0 x0)
 unfold dD at h
 simp only [bI,cj,aB,aI,bG,cW,dw,cQ] at h
 generalize max 0 x0=v at *
 rw [if_neg χ] at h
 cases hw:bZ v with
 | none =>
  rw [hw] at h hof
  simp only [qT,PR] at h hof
  clear hw
  cases d4:(v==4)
  all_goals
   refine γR1 hof func296 ntmps296 results296 ?_
   exact h ⟨0,0,0,0,0,[]⟩
 | some n =>
  rw [hw] at h hof
  simp only at h
  have d4:(v==4)=false:=by
   simp only [beq_eq_false_iff_ne]
   rintro rfl
   simp [bZ] at hw
  rw [if_neg χ,if_pos χ] at h
  have hsh:=fun S'=>n8 w0 S' n x1 [x2,x3,x4] χ
  cases hs:dP n x1 [x2,x3,x4] with
  | none =>
   rw [hs] at h hsh
   simp only [sw,qT,PR,Ac.av,al,aj,ea] at h hsh hof
   clear hs hw
   refine ΓR2 hof hsh func296 ntmps296 results296 ?_
   exact h ⟨0,0,0,0,0,[]⟩
  | some a =>
   rw [hs] at h hsh
   obtain⟨ak,an,am,ack,acn,tx⟩:=a
   simp only [sw,qT,PR,Ac.av,al,aj,ea] at h hsh hof
   clear hs hw
   exact ΓR2 hof hsh func296 ntmps296 results296 h
theorem F6(x0 x1 x2 x3 x4 x5:Int)(R:Rt)(h:PR R S (dD [x0,x1,x2,x3,x4,x5])):ao prog w0 296 [.sval false [.int .i64 x0,.int .i64 x1,.int .i64 x2,.int .i64 x3,.int .i64 x4,.int .i64 x5]] S R:=by
 have hm:(if x0>0 then x0 else 0)=max 0 x0:=by split<;>omega
 have hof:=fun S'=>Bu w0 S' (max 0 x0)
 unfold dD at h
 simp only [bI,cj,aB,aI,bG,cW,dw,cQ] at h
 generalize max 0 x0=v at *
 rw [if_neg χ] at h
 cases hw:bZ v with
 | none =>
  rw [hw] at h hof
  simp only [qT,PR] at h hof
  clear hw
  cases d4:(v==4)
  all_goals
   refine γR1 hof func296 ntmps296 results296 ?_
   exact h ⟨0,0,0,0,0,[]⟩
 | some n =>
  rw [hw] at h hof
  simp only at h
  have d4:(v==4)=false:=by
   simp only [beq_eq_false_iff_ne]
   rintro rfl
   simp [bZ] at hw
  cases d2:(x1==2) with
  | true =>
   have e2:x1=2:=by simpa using d2
   rw [if_pos ⟨trivial,e2⟩] at h
   clear e2
   have hsh:=fun S'=>n8 w0 S' n 2 [x3,x4,x5] χ
   cases hs:dP n 2 [x3,x4,x5] with
   | none =>
    rw [hs] at h hsh
    simp only [sw,qT,PR,Ac.av,al,aj,ea] at h hsh hof
    clear hs hw
    refine γR2 hof hsh func296 ntmps296 results296 ?_
    exact h ⟨0,0,0,0,0,[]⟩
   | some a =>
    rw [hs] at h hsh
    obtain⟨ak,an,am,ack,acn,tx⟩:=a
    simp only [sw,qT,PR,Ac.av,al,aj,ea] at h hsh hof
    clear hs hw
    exact γR2 hof hsh func296 ntmps296 results296 h
  | false =>
   have e2:x1≠2:=by simpa using d2
   rw [if_neg (fun e=>e2 e.2),if_pos χ] at h
   clear e2
   have hsh:=fun S'=>n8 w0 S' n x1 [x2,x3,x4,x5] χ
   cases hs:dP n x1 [x2,x3,x4,x5] with
   | none =>
    rw [hs] at h hsh
    simp only [sw,qT,PR,Ac.av,al,aj,ea] at h hsh hof
    clear hs hw
    refine ΓR2 hof hsh func296 ntmps296 results296 ?_
    exact h ⟨0,0,0,0,0,[]⟩
   | some a =>
    rw [hs] at h hsh
    obtain⟨ak,an,am,ack,acn,tx⟩:=a
    simp only [sw,qT,PR,Ac.av,al,aj,ea] at h hsh hof
    clear hs hw
    exact ΓR2 hof hsh func296 ntmps296 results296 h
end Go.Proofs.YthdbijpefkapnaaGreatDoor
