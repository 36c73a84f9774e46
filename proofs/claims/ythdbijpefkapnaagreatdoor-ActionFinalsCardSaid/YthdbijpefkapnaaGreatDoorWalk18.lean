/- YthdbijpefkapnaaGreatDoorWalk18: a part of the proof. -/
import Derived.Test.YthdbijpefkapnaaGreatDoorWalk16
import Derived.Test.YthdbijpefkapnaaGreatDoorCore3
set_option linter.all false
set_option maxHeartbeats 40000000
open Bool renaming or_eq_false_iff → ct, or_eq_true → eF
open Go.IntKind renaming i64 → ae, u8 → aX
open Go.IntWalk renaming i64_in → ah, u8_in → di
open Go.Lib renaming hid → ab
open List renaming all_eq_true → aC, append_nil → aG, length_append → ai, length_cons → aB, length_nil → aL, map_append → aY, map_cons → ap, map_nil → aq, mem_map → aM, nil_append → fS, set_append_right → fb
open Nat renaming le_refl → a8, zero_add → bC, zero_le → bf
namespace Go.Proofs.YthdbijpefkapnaaGreatDoor
open Go Go.Fen Go.Proofs.Tryz
attribute [local irreducible] aW WP aj dS jl cQ aV cV
set_option maxRecDepth 8000
variable (w0:World) (S:List aH)
def dE(p:Ps)(b g:Nat):aH:=.cells [.int .i64 p.st,.sval false (p.utf.map By),.int .u8 p.pv,.int .u8 p.fn,.sval false (p.pars.map cB),.str p.inter,.str p.text,.bool p.bad,.sown b g g]
def dJ(l:List Ev):aH:=.arr 40 7 0 l.length (l.map Ev.av)
def aO(X:List aH)(p:Ps)(l:List Ev):List aH:=X++[dE p (X.length+1) l.length,dJ l]
@[go_sem] theorem Ev.ltL(l:List Ev)(n:Nat):ltL n (l.map Ev.av)=true:=db.2 fun x hx=>by
 obtain⟨y,_,rfl⟩:=aM.1 hx
 simp only [Ev.av,AV.lt,Go.Fen.ltL,cB.ltL,Bool.and_self]
@[go_sem] theorem Ev.ok(l:List Ev):cN 7 (l.map Ev.av)=true:=by
 unfold cN;rw [aC];intro x hx;obtain⟨y,_,rfl⟩:=aM.1 hx;rfl
theorem Js(X:List aH)(p:Ps)(g:Nat):(dE p (X.length+1) g).ltB (X.length+2)=true:=by
 simp [dE,aH.ltB,Go.Fen.ltL,AV.lt,By.ltL,cB.ltL]
theorem yv(l:List Ev)(n:Nat):(dJ l).ltB n=true:=by
 simp [dJ,aH.ltB,Ev.ltL]
theorem Dd(X:List aH)(p:Ps)(l:List Ev):(aO X p l).length=X.length+2:=by simp [aO]
theorem g8{X:List aH}{p q:Ps}{l k:List Ev}(h:bD (aO X p l)):bD (aO X q k):=mP h (Js X q _) (yv k _)
section
variable {P:Program}{w0:World}{F:Func}{S0 S X L:List aH}{R:gC→List aH→Prop}{ms vs:List AV}{env:dj}{B C:aH}
theorem vi(h0:env DS=.dfr ms)(h01:eP ms S=some (X++B::C::L))(h1:gx P env (X++B::C::L) F.results.toList=some [])(hl:X.length+2=S0.length)(hB:bD (X++[B,C]))(h:R (.ret (.tup [])) (X++[B,C])):kC P F S0 R .ret env S:=by
 have e:X++B::C::L=(X++[B,C])++L:=by simp
 rw [e] at h01 h1
 exact Dy h0 h01 (by simp;omega) hB h1 rfl rfl h
theorem yu(h0:env DS=.dfr ms)(h01:eP ms S=some (X++B::C::L))(h1:gx P env (X++B::C::L) F.results.toList=some [])(hl:X.length+2=S0.length)(hB:bD (X++[B,C]))(h:R (.ret (.tup [])) (X++[B,C])):kC P F S0 R .normal env S :=
 vi h0 h01 h1 hl hB h
end
theorem qW{P:Program}{w0:World}{n0 N:Nat}{r:Option Nat}{Q:bP}{k:List TI}{env:dj}{S X:List aH}{it:KI}{B C:aH}{cs:List AV}{ty:Option TypeId}(t:Nat)(sl:List Nat)(hS:S=X++[B,C,.cells cs ty])(hO:bD (X++[B,C]))(hn:n0=X.length+2)(ht:env t=.own (X.length+2) 0)
  (hds:(env DS).lt (X.length+2)=true) (hsl:(sl.all fun u=>(eJ env t (.pro cs) u).lt (X.length+2))=true) (h:aW P w0 n0 N r (.it it::k) Q .normal (ii sl (eJ env t (.pro cs))) (X++[B,C])):aW P w0 n0 N r (.it it::k) Q .normal env S:=by
 have hl:(X++[B,C]).length=X.length+2:=by simp
 have hS':S=(X++[B,C])++[.cells cs ty]:=by rw [hS];simp
 refine GY (X++[B,C]) sl hS' hO (hn.trans hl.symm) (by rw [hl];exact ht) (by rw [hl];exact hds) (by rw [hl];exact hsl) h
section
variable {P:Program}{F:Func}{S0 S X L:List aH}{R:gC→List aH→Prop}{ms:List AV}{env:dj}{p q:Ps}{l k:List Ev}
theorem nL(hO:bD (aO X p l))(h:R (.ret (.tup [])) (aO X q k))(hl:X.length+2=S0.length)(h0:env DS=.dfr ms)(h01:eP ms S=some (X++dE q (X.length+1) k.length::dJ k::L))(h1:gx P env (X++dE q (X.length+1) k.length::dJ k::L) F.results.toList=some []):kC P F S0 R .ret env S :=
 vi h0 h01 h1 hl (g8 hO) h
theorem bN(hO:bD (aO X p l))(h:R (.ret (.tup [])) (aO X q k))(hl:X.length+2=S0.length)(h0:env DS=.dfr ms)(h01:eP ms S=some (X++dE q (X.length+1) k.length::dJ k::L))(h1:gx P env (X++dE q (X.length+1) k.length::dJ k::L) F.results.toList=some []):kC P F S0 R .normal env S :=
 nL hO h hl h0 h01 h1
end
theorem wa{X:List aH}{cs:List AV}{ty:Option TypeId}{E:aH}{p:Ps}{l:List Ev}(h1:aH.cells (cs.map softV) ty=dE p (X.length+1) l.length)(h2:E=dJ l){R:gC→List aH→Prop}{o:gC}(h:R o (aO X p l)) :
  ∃ cs' ty',(X++[aH.cells cs ty,E])[X.length]? = some (.cells cs' ty')∧R o ((X++[aH.cells cs ty,E]).set X.length (.cells (cs'.map softV) ty')):=by
 subst h2
 refine⟨cs,ty,by simp, ?_⟩
 rw [fb _ _ (a8 _),Nat.sub_self,List.set_cons_zero,h1]
 exact h
theorem gu(w0:World)(X:List aH)(p:Ps)(l:List Ev)(n:Nat)(R:Rt)(h:R (.ret (.tup [])) (aO X (dg n) l)):aj prog w0 167 [.own X.length 0,.int .i64 n] (aO X p l) R:=by
 refine aj.softC X.length ?_
 have H:=ab h
 clear h
 refine eN func167 rfl ntmps167 fun hO=>?_
 have HO:=ab hO
 clear hO
 unfold aO dE
 repeat' first|refine st ?_|(refine br ?_ ?_<;>intro hb)|fail
 refine JI results167 ?_ ?_ ?_
 ·exact mP HO.out (by simp [aH.ltB,Go.Fen.ltL,AV.lt]) (yv _ _)
 ·simp [aO]
 ·exact wa rfl rfl H.out
theorem rk(w0:World)(X:List aH)(p:Ps)(l:List Ev)(R:Rt)(h:R (.ret (.tup [])) (aO X (qv p.st) l)):aj prog w0 215 [.own X.length 0] (aO X p l) R:=by
 refine aj.softC X.length ?_
 have H:=ab h
 clear h
 refine eN func215 rfl ntmps215 fun hO=>?_
 have HO:=ab hO
 clear hO
 unfold aO dE
 repeat' first|refine st ?_|(refine br ?_ ?_<;>intro hb)|fail
 refine JI results215 ?_ ?_ ?_
 ·exact mP HO.out (by simp [aH.ltB,Go.Fen.ltL,AV.lt]) (yv _ _)
 ·simp [aO]
 ·exact wa rfl rfl H.out
theorem zk(w0:World)(X:List aH)(p:Ps)(l:List Ev)(e:Ev)(hl:l.length≤1000000)(R:Rt)(h:R (.ret (.tup [])) (aO X p (l++[e]))):aj prog w0 170 [.own X.length 0,e.av] (aO X p l) R:=by
 have H:=ab h
 clear h
 have hb:(l.length+1) * 80≤140737488355328:=by omega
 rw [show e.av=.agg [.int .i64 e.kind,.int .i64 e.code,.int .u8 e.priv,.int .u8 e.fin,.sval false (e.pars.map cB),.str e.inter,.str e.text] from rfl]
 refine eN func170 rfl ntmps170 fun hO=>?_
 have HO:=ab hO
 clear hO hl
 unfold aO dE dJ
 repeat' first|refine st ?_|(refine br ?_ ?_<;>intro hb)|refine sd ?_|refine sx ?_|apply au|(apply aF;(· decide +kernel))|refine bd ?_ ?_|fail
 apply yu
 ·(simp only [go_sem, *];try rfl)
 ·(simp only [go_sem, *];try rfl)
 ·(simp only [go_sem, *,results170];try rfl)
 ·simp
 ·exact mP HO.out (by simp [aH.ltB,Go.Fen.ltL,AV.lt,By.ltL,cB.ltL]) (by rw [zD,rG,Ev.ltL];simp [Go.Fen.ltL,AV.lt,cB.ltL])
 ·have H1:=H.out
  simp only [aO,dE,dJ,ai,aB,aL,aY,ap,aq,bC] at H1
  exact H1
theorem tV(p:Ps)(e:Ev):(kW p e).2.length≤1:=by
 unfold kW
 split<;>simp
theorem tj(w0:World)(X:List aH)(p:Ps)(l:List Ev)(e:Ev)(hl:l.length≤1000000)(R:Rt)(h:R (.ret (.tup [])) (aO X (kW p e).1 (l++(kW p e).2))):aj prog w0 214 [.own X.length 0,e.av] (aO X p l) R:=by
 have htell:=zk w0 X p l e hl
 have hbeg:=fun l=>gu w0 X p l 0
 have hbe2:=gu w0 X p (l++[e]) 0
 unfold kW at h
 rw [show e.av=.agg [.int .i64 e.kind,.int .i64 e.code,.int .u8 e.priv,.int .u8 e.fin,.sval false (e.pars.map cB),.str e.inter,.str e.text] from rfl] at htell ⊢
 have H:=ab h
 clear h hl
 refine eN func214 rfl ntmps214 fun hO=>?_
 have HO:=ab hO
 clear hO
 repeat' ((fail_if_success (apply dp 4 rfl));first|refine st ?_|(refine br ?_ ?_<;>intro hb)|fail)
 refine GY (aO X p l) (t:=3) [0,3] rfl HO.out rfl ss ss ?_ ?_
 ·simp only [go_sem, *,Dd]
 unfold aO dE dJ
 cases hb:p.bad
 ·have hb2:=hbe2
  simp only [aO,dE,dJ,hb] at htell hb2
  clear hbeg hbe2
  repeat' first|refine st ?_|(refine ca ?_;first|apply htell|apply hb2)|(refine br ?_ ?_<;>intro hb)|fail
  apply yu (L:=[])
  ·(simp only [go_sem, *];try rfl)
  ·(simp only [go_sem, *];try rfl)
  ·(simp only [go_sem, *,results214];try rfl)
  ·simp
  ·exact g8 (q:=dg 0) (k:=l++[e]) HO.out
  ·have H1:=H.out
   rw [hb] at H1
   exact H1
 ·have hb2:=hbeg l
  simp only [aO,dE,dJ,hb] at hb2
  clear hbeg hbe2 htell
  repeat' first|refine st ?_|(refine ca ?_;apply hb2)|(refine br ?_ ?_<;>intro hb)|fail
  apply yu (L:=[])
  ·(simp only [go_sem, *];try rfl)
  ·(simp only [go_sem, *];try rfl)
  ·(simp only [go_sem, *,results214];try rfl)
  ·simp
  ·exact g8 (q:=dg 0) (k:=l) HO.out
  ·have H1:=H.out
   rw [hb] at H1
   simp only [if_true,aG] at H1
   exact H1
theorem wi(w0:World)(X:List aH)(p:Ps)(l:List Ev)(b:Nat)(hi:p.inter.length≤2)(R:Rt)(h:R (.ret (.tup [])) (aO X (ma p b) l)):aj prog w0 260 [.own X.length 0,.int .u8 b] (aO X p l) R:=by
 have hsp:=rk w0 X p l
 by_cases hc:p.bad∨p.inter.length=2
 ·unfold ma at h
  rw [if_pos hc] at h
  have H:=ab h
  clear h
  refine eN func260 rfl ntmps260 fun hO=>?_
  have HO:=ab hO
  clear hO
  unfold aO dE dJ
  cases hb:p.bad
  ·have h2:((p.inter.length:Int)==2)=true:=by
    rcases hc with hc|hc
    ·rw [hb] at hc;cases hc
    ·rw [hc];rfl
   simp only [aO,dE,dJ,hb] at hsp
   clear hc hi
   repeat' first|refine st ?_|(refine ca ?_;apply hsp)|(refine br ?_ ?_<;>intro hb)|fail
   apply vi (L:=[])
   ·(simp only [go_sem, *];try rfl)
   ·(simp only [go_sem, *];try rfl)
   ·(simp only [go_sem, *,results260];try rfl)
   ·simp
   ·exact g8 (q:=qv p.st) HO.out
   ·exact H.out
  ·simp only [aO,dE,dJ,hb] at hsp
   clear hc hi
   repeat' first|refine st ?_|(refine ca ?_;apply hsp)|(refine br ?_ ?_<;>intro hb)|fail
   apply vi (L:=[])
   ·(simp only [go_sem, *];try rfl)
   ·(simp only [go_sem, *];try rfl)
   ·(simp only [go_sem, *,results260];try rfl)
   ·simp
   ·exact g8 (q:=qv p.st) HO.out
   ·exact H.out
 ·unfold ma at h
  rw [if_neg hc] at h
  rw [not_or] at hc
  have hb:p.bad=false:=by simpa using hc.1
  have h2:((p.inter.length:Int)==2)=false:=by rw [beq_eq_false_iff_ne];omega
  have h3:p.inter.length+1≤9223372036854775807:=by omega
  have H:=ab h
  clear h hc hi hsp
  refine eN func260 rfl ntmps260 fun hO=>?_
  have HO:=ab hO
  clear hO
  unfold aO dE dJ
  rw [hb]
  repeat' first|refine st ?_|(refine br ?_ ?_<;>intro hb)|refine sd ?_|refine sx ?_|apply au|(apply aF;(· decide +kernel))|refine bd ?_ ?_|fail
  (apply bN HO.out H.out;(· simp);(· (simp only [go_sem, *];try rfl));(· (simp only [go_sem, *];try rfl));(· (simp only [go_sem, *,results260];try rfl)))
theorem Dl(p:Ps)(b:Nat):(mq p b).2.length≤1:=by
 unfold mq
 split
 ·exact tV _ _
 ·simp
theorem Cq(w0:World)(X:List aH)(p:Ps)(l:List Ev)(b:Nat)(hl:l.length≤1000000)(hs:p.st≤14)(R:Rt)(h:R (.ret (.tup [])) (aO X (mq p b).1 (l++(mq p b).2))):aj prog w0 262 [.own X.length 0,.int .u8 b] (aO X p l) R:=by
 have hd:=tj w0 X p l (DB p b) hl
 unfold mq at h
 by_cases h5:p.st≤5
 ·rw [if_pos h5] at h
  have d5:decide ((p.st:Int)≤5)=true:=by simp;omega
  have hav:(DB p b).av=.agg [.int .i64 4,.int .i64 0,.int .u8 p.pv,.int .u8 b,.sval false (p.pars.map cB),.str p.inter,.str []]:=rfl
  rw [hav] at hd
  have H:=ab h
  clear h h5 hl
  refine eN func262 rfl ntmps262 fun hO=>?_
  have HO:=ab hO
  clear hO
  unfold aO dE dJ
  repeat' ((fail_if_success (apply dp 9 rfl));first|refine st ?_|(refine br ?_ ?_<;>intro hb)|fail)
  refine qW 4 [0,1,4] rfl HO.out (by simp) ss ss ss ?_
  simp only [aO,dE,dJ] at hd
  repeat' first|refine st ?_|(refine ca ?_;apply hd)|(refine br ?_ ?_<;>intro hb)|fail
  (apply nL HO.out H.out;(· simp);(· (simp only [go_sem, *];try rfl));(· (simp only [go_sem, *];try rfl));(· (simp only [go_sem, *,results262];try rfl)))
 ·rw [if_neg h5] at h
  have d5:decide ((p.st:Int)≤5)=false:=by simp;omega
  rw [aG] at h
  clear h5 hl hd
  cases hb:p.bad
  all_goals
   rw [hb] at h
   have H:=ab h
   clear h
   refine eN func262 rfl ntmps262 fun hO=>?_
   have HO:=ab hO
   clear hO
   unfold aO dE dJ
   rw [hb]
   repeat' ((fail_if_success (apply dp 9 rfl));first|refine st ?_|(refine br ?_ ?_<;>intro hb)|fail)
   refine qW 4 [0,1,4] rfl (by first|exact g8 (q:={ p with bad:=false }) (k:=l) HO.out|exact g8 (q:={ p with bad:=true }) (k:=l) HO.out) (by simp) ss ss ss ?_
   repeat' first|refine st ?_|(refine br ?_ ?_<;>intro hb)|fail
   (apply bN HO.out H.out;(· simp);(· (simp only [go_sem, *];try rfl));(· (simp only [go_sem, *];try rfl));(· (simp only [go_sem, *,results262];try rfl)))
theorem I6(c:Nat)(hc:c<256)(R:Rt)(h:R (.ret (uq (nj [] c))) S) :
  aj prog w0 299 [.sval false [],.int .u8 c] S R:=by
 have hck:=fun S'=>ry w0 S' [] ⟨by decide,by simp⟩
 have hck0:oz []=0:=by decide
 rw [hck0] at hck
 simp only [aq] at hck
 rw [l9 (pre:=[]) (q:=[]) (n:=-1) rfl] at h
 have hch:=fun S' v=>C3 w0 S' S.length none [] [-1] v (by decide)
 simp only [fS,ap,aq,cB,eE] at hch
 have hci:=fun S' v=>wC w0 S' [] (-1) v (by decide)
 simp only [fS,ap,aq,cB,eE] at hci
 simp only [fS,aL] at h
 by_cases c1:c=59
 ·subst c1
  have H:=ab h
  clear h hch hci
  refine eN func299 rfl ntmps299 fun hO=>?_
  repeat' ((fail_if_success (apply dp 21 rfl));first|refine st ?_|(refine ca ?_;apply hck)|(refine br ?_ ?_<;>intro hb)|fail)
  refine BP S.length [S.length+1,S.length+2] ss ss ss ss ?_
  simp only [go_sem, *]
  repeat' ((fail_if_success (apply dp 44 rfl));first|refine st ?_|(refine ca ?_;apply hck)|(refine br ?_ ?_<;>intro hb)|fail)
  refine po (t:=43) (a:=S.length+3) rfl ss ss ?_
  repeat' first|refine st ?_|(refine ca ?_;apply hck)|(refine br ?_ ?_<;>intro hb)|fail
  refine fR results299 ?_
  exact H.out
 rw [if_neg c1] at h
 have f1:((c:Int)==59)=false:=by rw [beq_eq_false_iff_ne];omega
 by_cases c2:c=58
 ·subst c2
  have hch2:=fun S'=>hch S' [-1,-1]
  simp only [ap,aq,eE] at hch2
  have H:=ab h
  clear h hch hci
  refine eN func299 rfl ntmps299 fun hO=>?_
  repeat' ((fail_if_success (apply dp 21 rfl));first|refine st ?_|(refine ca ?_;apply hck)|(refine br ?_ ?_<;>intro hb)|fail)
  refine BP S.length [S.length+1,S.length+2] ss ss ss ss ?_
  simp only [go_sem, *]
  repeat' ((fail_if_success (apply dp 64 rfl));first|refine st ?_|(refine ca ?_;apply hck)|(refine br ?_ ?_<;>intro hb)|fail)
  refine po (t:=63) (a:=S.length+4) rfl ss ss ?_
  repeat' first|refine st ?_|(refine ca ?_;(apply hch2;(· simp only [go_sem, *];try rfl)))|(refine br ?_ ?_<;>intro hb)|fail
  refine fR results299 ?_
  exact H.out
 rw [if_neg c2] at h
 have f2:((c:Int)==58)=false:=by rw [beq_eq_false_iff_ne];omega
 by_cases c3:48≤c∧c≤57
 ·rw [if_pos c3] at h
  have g1:decide ((48:Int)≤(c:Int))=true:=by simp;omega
  have g2:decide ((c:Int)≤57)=true:=by simp;omega
  have hwc:aX.wrap ((c:Int) - 48)=(c:Int) - 48:=di _ (by omega)
  have hwd:ae.wrap ((c:Int) - 48)=(c:Int) - 48:=ah _ (by omega)
  have hwa:ae.wrap (0+((c:Int) - 48))=(c:Int) - 48:=by rw [Int.zero_add];exact hwd
  have hw0:ae.wrap ((if (-1:Int)>0 then -1 else 0) * 10)=0:=by decide
  have hv:((9999:Int)<(c:Int) - 48)=False:=eq_false (by omega)
  rw [show min (max 0 (-1:Int) * 10+((c:Int) - 48)) 9999=(c:Int) - 48 by omega] at h
  obtain⟨v,hvv⟩:∃ v:Int,(c:Int) - 48=v:=⟨_,rfl⟩
  rw [hvv] at hwc hwd hwa hv h
  have hch2:=fun S'=>hch S' [v]
  simp only [ap,aq,eE] at hch2
  have hci2:=fun S'=>hci S' v
  have H:=ab h
  clear h c1 c2 c3 hch hci
  refine eN func299 rfl ntmps299 fun hO=>?_
  repeat' ((fail_if_success (apply dp 21 rfl));first|refine st ?_|(refine ca ?_;apply hck)|(refine br ?_ ?_<;>intro hb)|fail)
  refine BP S.length [S.length+1,S.length+2] ss ss ss ss ?_
  simp only [go_sem, *]
  repeat' first|refine st ?_|(refine ca ?_;first|(apply hch2;(· simp only [go_sem, *];try rfl))|apply hci2)|(refine br ?_ ?_<;>intro hb)|fail
  refine fR results299 ?_
  exact H.out
 ·rw [if_neg c3] at h
  have H:=ab h
  clear h hch hci
  by_cases c4:48≤c
  ·have g1:decide ((48:Int)≤(c:Int))=true:=by simp;omega
   have g2:decide ((c:Int)≤57)=false:=by simp;omega
   clear c1 c2 c3 c4
   refine eN func299 rfl ntmps299 fun hO=>?_
   repeat' first|refine st ?_|(refine ca ?_;apply hck)|(refine br ?_ ?_<;>intro hb)|fail
   refine fR results299 ?_
   exact H.out
  ·have g1:decide ((48:Int)≤(c:Int))=false:=by simp;omega
   clear c1 c2 c3 c4
   refine eN func299 rfl ntmps299 fun hO=>?_
   repeat' first|refine st ?_|(refine ca ?_;apply hck)|(refine br ?_ ?_<;>intro hb)|fail
   refine fR results299 ?_
   exact H.out
theorem KK(l:List (List Int))(c:Nat)(hc:c<256)(hok:dQ l=true)(R:Rt)(h:R (.ret (uq (nj l c))) S):aj prog w0 299 [.sval false (l.map cB),.int .u8 c] S R:=by
 by_cases hl:l=[]
 ·subst hl;exact I6 w0 S c hc R h
 ·obtain⟨pre,q,n,e,h1,h2,h3,_,_⟩:=ql hok
  rw [tD hl] at e
  subst e
  exact I5 w0 S pre q n c hc hok h1 h2 h3 R h
theorem Cx(w0:World)(X:List aH)(p:Ps)(l:List Ev)(b:Nat)(hb8:b<256)(hok:dQ p.pars=true)(R:Rt)(h:R (.ret (.tup [])) (aO X (Ba p b) l)):aj prog w0 261 [.own X.length 0,.int .u8 b] (aO X p l) R:=by
 have hsp:=rk w0 X p l
 have hst:=fun S'=>KK w0 S' p.pars b hb8 hok
 unfold uq at hst
 unfold Ba at h
 generalize nj p.pars b=q at h hst
 obtain⟨q1,q2⟩:=q
 simp only at h hst
 clear hok hb8
 by_cases hq:q2=0
 ·subst hq
  cases hb:p.bad
  ·have h:R (.ret (.tup [])) (aO X { p with pars:=q1 } l):=by simpa [hb] using h
   have H:=ab h
   clear h hsp
   refine eN func261 rfl ntmps261 fun hO=>?_
   have HO:=ab hO
   clear hO
   unfold aO dE dJ
   rw [hb]
   repeat' first|refine st ?_|(refine ca ?_;apply hst)|(refine br ?_ ?_<;>intro hb)|fail
   (apply bN HO.out H.out;(· simp);(· (simp only [go_sem, *];try rfl));(· (simp only [go_sem, *];try rfl));(· (simp only [go_sem, *,results261];try rfl)))
  ·have h:R (.ret (.tup [])) (aO X (qv p.st) l):=by simpa [hb] using h
   have H:=ab h
   clear h
   refine eN func261 rfl ntmps261 fun hO=>?_
   have HO:=ab hO
   clear hO
   unfold aO dE dJ
   simp only [aO,dE,dJ,hb] at hsp ⊢
   repeat' first|refine st ?_|(refine ca ?_;first|apply hst|apply hsp)|(refine br ?_ ?_<;>intro hb)|fail
   (apply nL HO.out H.out;(· simp);(· (simp only [go_sem, *];try rfl));(· (simp only [go_sem, *];try rfl));(· (simp only [go_sem, *,results261];try rfl)))
 ·have h:R (.ret (.tup [])) (aO X (qv p.st) l):=by simpa [hq] using h
  have hq2:(q2==0)=false:=by rw [beq_eq_false_iff_ne];exact hq
  have hq3:(q2 != 0)=true:=by simpa using hq
  have hq4:decide (q2=0)=false:=by simpa using hq
  have H:=ab h
  clear h hq
  refine eN func261 rfl ntmps261 fun hO=>?_
  have HO:=ab hO
  clear hO
  unfold aO dE dJ
  simp only [aO,dE,dJ] at hsp
  repeat' first|refine st ?_|(refine ca ?_;first|apply hst|apply hsp)|(refine br ?_ ?_<;>intro hb)|fail
  (apply nL HO.out H.out;(· simp);(· (simp only [go_sem, *];try rfl));(· (simp only [go_sem, *];try rfl));(· (simp only [go_sem, *,results261];try rfl)))
theorem E_(w0:World)(X:List aH)(p:Ps)(l:List Ev)(b:Nat)(hl:l.length≤1000000)(hb:b<256)(R:Rt)(h:R (.ret (.tup [])) (aO X p (l++[lr b]))):aj prog w0 216 [.own X.length 0,.int .u8 b] (aO X p l) R:=by
 have k0:=zk w0 X p l (lr b) hl
 rw [show (lr b).av=.agg [.int .i64 1,.int .i64 b,.int .u8 0,.int .u8 0,.sval false [],.str [],.str []] from rfl] at k0
 simp only [aO,dE,dJ] at k0
 have hw:ae.wrap (b:Int)=(b:Int):=ah _ (by omega)
 have H:=ab h
 clear h hl hb
 refine eN func216 rfl ntmps216 fun hO=>?_
 have HO:=ab hO
 clear hO
 unfold aO dE dJ
 repeat' first|refine st ?_|(refine ca ?_;apply k0)|(refine br ?_ ?_<;>intro hb)|fail
 (apply bN HO.out H.out;(· simp);(· (simp only [go_sem, *];try rfl));(· (simp only [go_sem, *];try rfl));(· (simp only [go_sem, *,results216];try rfl)))
theorem Ff(w0:World)(X:List aH)(p:Ps)(l:List Ev)(b:Nat)(hl:l.length≤1000000)(hp:fF p)(hb:b<256)(R:Rt)(h:R (.ret (.tup [])) (aO X (A8 p b).1 (l++(A8 p b).2))):aj prog w0 217 [.own X.length 0,.int .u8 b] (aO X p l) R:=by
 unfold A8 at h
 by_cases c91:b=91
 ·rw [if_pos c91] at h
  try simp only [aG] at h
  have e91:((b:Int)==91)=true:=by simp;omega
  have k0:=gu w0 X p l 3
  simp only [aO,dE,dJ] at k0
  have H:=ab h
  clear h hl hp hb
  refine eN func217 rfl ntmps217 fun hO=>?_
  have HO:=ab hO
  clear hO
  unfold aO dE dJ
  repeat' first|refine st ?_|(refine ca ?_;apply k0)|(refine br ?_ ?_<;>intro hb)|fail
  (apply bN HO.out H.out;(· simp);(· (simp only [go_sem, *];try rfl));(· (simp only [go_sem, *];try rfl));(· (simp only [go_sem, *,results217];try rfl)))
 rw [if_neg c91] at h
 by_cases c93:b=93
 ·rw [if_pos c93] at h
  try simp only [aG] at h
  have e91:((b:Int)==91)=false:=by rw [beq_eq_false_iff_ne];omega
  have e93:((b:Int)==93)=true:=by simp;omega
  have k0:=gu w0 X p l 6
  simp only [aO,dE,dJ] at k0
  have H:=ab h
  clear h hl hp hb
  refine eN func217 rfl ntmps217 fun hO=>?_
  have HO:=ab hO
  clear hO
  unfold aO dE dJ
  repeat' first|refine st ?_|(refine ca ?_;apply k0)|(refine br ?_ ?_<;>intro hb)|fail
  (apply bN HO.out H.out;(· simp);(· (simp only [go_sem, *];try rfl));(· (simp only [go_sem, *];try rfl));(· (simp only [go_sem, *,results217];try rfl)))
 rw [if_neg c93] at h
 by_cases c80:b=80
 ·rw [if_pos c80] at h
  try simp only [aG] at h
  have e91:((b:Int)==91)=false:=by rw [beq_eq_false_iff_ne];omega
  have e93:((b:Int)==93)=false:=by rw [beq_eq_false_iff_ne];omega
  have e80:((b:Int)==80)=true:=by simp;omega
  have k0:=gu w0 X p l 8
  simp only [aO,dE,dJ] at k0
  have H:=ab h
  clear h hl hp hb
  refine eN func217 rfl ntmps217 fun hO=>?_
  have HO:=ab hO
  clear hO
  unfold aO dE dJ
  repeat' first|refine st ?_|(refine ca ?_;apply k0)|(refine br ?_ ?_<;>intro hb)|fail
  (apply bN HO.out H.out;(· simp);(· (simp only [go_sem, *];try rfl));(· (simp only [go_sem, *];try rfl));(· (simp only [go_sem, *,results217];try rfl)))
 rw [if_neg c80] at h
 by_cases c88:b=88∨b=94∨b=95
 ·rw [if_pos c88] at h
  rcases c88 with rfl|rfl|rfl
  ·
   try simp only [aG] at h
   have k0:=gu w0 X p l 13
   simp only [aO,dE,dJ] at k0
   have H:=ab h
   clear h hl hp hb
   refine eN func217 rfl ntmps217 fun hO=>?_
   have HO:=ab hO
   clear hO
   unfold aO dE dJ
   repeat' first|refine st ?_|(refine ca ?_;apply k0)|(refine br ?_ ?_<;>intro hb)|fail
   (apply bN HO.out H.out;(· simp);(· (simp only [go_sem, *];try rfl));(· (simp only [go_sem, *];try rfl));(· (simp only [go_sem, *,results217];try rfl)))
  ·
   try simp only [aG] at h
   have k0:=gu w0 X p l 13
   simp only [aO,dE,dJ] at k0
   have H:=ab h
   clear h hl hp hb
   refine eN func217 rfl ntmps217 fun hO=>?_
   have HO:=ab hO
   clear hO
   unfold aO dE dJ
   repeat' first|refine st ?_|(refine ca ?_;apply k0)|(refine br ?_ ?_<;>intro hb)|fail
   (apply bN HO.out H.out;(· simp);(· (simp only [go_sem, *];try rfl));(· (simp only [go_sem, *];try rfl));(· (simp only [go_sem, *,results217];try rfl)))
  ·
   try simp only [aG] at h
   have k0:=gu w0 X p l 13
   simp only [aO,dE,dJ] at k0
   have H:=ab h
   clear h hl hp hb
   refine eN func217 rfl ntmps217 fun hO=>?_
   have HO:=ab hO
   clear hO
   unfold aO dE dJ
   repeat' first|refine st ?_|(refine ca ?_;apply k0)|(refine br ?_ ?_<;>intro hb)|fail
   (apply bN HO.out H.out;(· simp);(· (simp only [go_sem, *];try rfl));(· (simp only [go_sem, *];try rfl));(· (simp only [go_sem, *,results217];try rfl)))
 rw [if_neg c88] at h
 rw [not_or,not_or] at c88
 by_cases c48:b<48
 ·rw [if_pos c48] at h
  try simp only [aG] at h
  have e91:((b:Int)==91)=false:=by rw [beq_eq_false_iff_ne];omega
  have e93:((b:Int)==93)=false:=by rw [beq_eq_false_iff_ne];omega
  have e80:((b:Int)==80)=false:=by rw [beq_eq_false_iff_ne];omega
  have e88:((b:Int)==88)=false:=by rw [beq_eq_false_iff_ne];omega
  have e94:((b:Int)==94)=false:=by rw [beq_eq_false_iff_ne];omega
  have e95:((b:Int)==95)=false:=by rw [beq_eq_false_iff_ne];omega
  have d48:decide ((b:Int)<48)=true:=by simp;omega
  have k0:=gu w0 X p l 2
  have k1:=wi w0 X (dg 2) l b (bf _)
  simp only [aO,dE,dJ] at k0 k1
  have H:=ab h
  clear h hl hp hb
  refine eN func217 rfl ntmps217 fun hO=>?_
  have HO:=ab hO
  clear hO
  unfold aO dE dJ
  repeat' first|refine st ?_|(refine ca ?_;first|apply k0|apply k1)|(refine br ?_ ?_<;>intro hb)|fail
  (apply nL HO.out H.out;(· simp);(· (simp only [go_sem, *];try rfl));(· (simp only [go_sem, *];try rfl));(· (simp only [go_sem, *,results217];try rfl)))
 rw [if_neg c48] at h
 have k0:=tj w0 X p l (tT [] b) hl
 rw [show (tT [] b).av=.agg [.int .i64 3,.int .i64 0,.int .u8 0,.int .u8 b,.sval false [],.str [],.str []] from rfl] at k0
 simp only [aO,dE,dJ] at k0
 try simp only [aG] at h
 have e91:((b:Int)==91)=false:=by rw [beq_eq_false_iff_ne];omega
 have e93:((b:Int)==93)=false:=by rw [beq_eq_false_iff_ne];omega
 have e80:((b:Int)==80)=false:=by rw [beq_eq_false_iff_ne];omega
 have e88:((b:Int)==88)=false:=by rw [beq_eq_false_iff_ne];omega
 have e94:((b:Int)==94)=false:=by rw [beq_eq_false_iff_ne];omega
 have e95:((b:Int)==95)=false:=by rw [beq_eq_false_iff_ne];omega
 have d48:decide ((b:Int)<48)=false:=by simp;omega
 have H:=ab h
 clear h hl hp hb
 refine eN func217 rfl ntmps217 fun hO=>?_
 have HO:=ab hO
 clear hO
 unfold aO dE dJ
 repeat' first|refine st ?_|(refine ca ?_;apply k0)|(refine br ?_ ?_<;>intro hb)|fail
 (apply bN HO.out H.out;(· simp);(· (simp only [go_sem, *];try rfl));(· (simp only [go_sem, *];try rfl));(· (simp only [go_sem, *,results217];try rfl)))
theorem IG(w0:World)(X:List aH)(p:Ps)(l:List Ev)(b:Nat)(hl:l.length≤1000000)(hp:fF p)(hb:b<256)(R:Rt)(h:R (.ret (.tup [])) (aO X (px p b).1 (l++(px p b).2))):aj prog w0 218 [.own X.length 0,.int .u8 b] (aO X p l) R:=by
 unfold px at h
 have hi:=hp.inter
 by_cases c48:b<48
 ·rw [if_pos c48] at h
  try simp only [aG] at h
  have d48:decide ((b:Int)<48)=true:=by simp;omega
  have k0:=wi w0 X p l b hi
  simp only [aO,dE,dJ] at k0
  have H:=ab h
  clear h hl hp hb
  refine eN func218 rfl ntmps218 fun hO=>?_
  have HO:=ab hO
  clear hO
  unfold aO dE dJ
  repeat' first|refine st ?_|(refine ca ?_;apply k0)|(refine br ?_ ?_<;>intro hb)|fail
  (apply nL HO.out H.out;(· simp);(· (simp only [go_sem, *];try rfl));(· (simp only [go_sem, *];try rfl));(· (simp only [go_sem, *,results218];try rfl)))
 rw [if_neg c48] at h
 have k0:=tj w0 X p l (tT p.inter b) hl
 rw [show (tT p.inter b).av=.agg [.int .i64 3,.int .i64 0,.int .u8 0,.int .u8 b,.sval false [],.str p.inter,.str []] from rfl] at k0
 simp only [aO,dE,dJ] at k0
 try simp only [aG] at h
 have d48:decide ((b:Int)<48)=false:=by simp;omega
 have H:=ab h
 clear h hl hp hb
 refine eN func218 rfl ntmps218 fun hO=>?_
 have HO:=ab hO
 clear hO
 unfold aO dE dJ
 repeat' first|refine st ?_|(refine ca ?_;apply k0)|(refine br ?_ ?_<;>intro hb)|fail
 (apply bN HO.out H.out;(· simp);(· (simp only [go_sem, *];try rfl));(· (simp only [go_sem, *];try rfl));(· (simp only [go_sem, *,results218];try rfl)))
theorem Cw(w0:World)(X:List aH)(p:Ps)(l:List Ev)(b:Nat)(hl:l.length≤1000000)(hp:fF p)(hb:b<256)(R:Rt)(h:R (.ret (.tup [])) (aO X (mz p b).1 (l++(mz p b).2))):aj prog w0 219 [.own X.length 0,.int .u8 b] (aO X p l) R:=by
 unfold mz at h
 have hs:=hp.st
 by_cases c48:b<48
 ·rw [if_pos c48] at h
  try simp only [aG] at h
  have d48:decide ((b:Int)<48)=true:=by simp;omega
  have hw:ae.wrap ((p.st:Int)+2)=((p.st+2:Nat):Int):=by rw [ah _ (by omega)];omega
  have k0:=gu w0 X p l (p.st+2)
  have k1:=wi w0 X (dg (p.st+2)) l b (bf _)
  simp only [aO,dE,dJ] at k0 k1
  have H:=ab h
  clear h hl hp hb
  refine eN func219 rfl ntmps219 fun hO=>?_
  have HO:=ab hO
  clear hO
  unfold aO dE dJ
  repeat' first|refine st ?_|(refine ca ?_;first|apply k0|apply k1)|(refine br ?_ ?_<;>intro hb)|fail
  (apply bN HO.out H.out;(· simp);(· (simp only [go_sem, *];try rfl));(· (simp only [go_sem, *];try rfl));(· (simp only [go_sem, *,results219];try rfl)))
 rw [if_neg c48] at h
 by_cases c60:b<60
 ·rw [if_pos c60] at h
  try simp only [aG] at h
  have d48:decide ((b:Int)<48)=false:=by simp;omega
  have d60:decide ((b:Int)<60)=true:=by simp;omega
  have hw:ae.wrap ((p.st:Int)+1)=((p.st+1:Nat):Int):=by rw [ah _ (by omega)];omega
  have k0:=gu w0 X p l (p.st+1)
  have k1:=Cx w0 X (dg (p.st+1)) l b hb rfl
  simp only [aO,dE,dJ] at k0 k1
  have H:=ab h
  clear h hl hp hb
  refine eN func219 rfl ntmps219 fun hO=>?_
  have HO:=ab hO
  clear hO
  unfold aO dE dJ
  repeat' first|refine st ?_|(refine ca ?_;first|apply k0|apply k1)|(refine br ?_ ?_<;>intro hb)|fail
  (apply bN HO.out H.out;(· simp);(· (simp only [go_sem, *];try rfl));(· (simp only [go_sem, *];try rfl));(· (simp only [go_sem, *,results219];try rfl)))
 rw [if_neg c60] at h
 by_cases c64:b<64
 ·rw [if_pos c64] at h
  try simp only [aG] at h
  have d48:decide ((b:Int)<48)=false:=by simp;omega
  have d60:decide ((b:Int)<60)=false:=by simp;omega
  have d64:decide ((b:Int)<64)=true:=by simp;omega
  have hw:ae.wrap ((p.st:Int)+1)=((p.st+1:Nat):Int):=by rw [ah _ (by omega)];omega
  have k0:=gu w0 X p l (p.st+1)
  simp only [aO,dE,dJ] at k0
  have H:=ab h
  clear h hl hp hb
  refine eN func219 rfl ntmps219 fun hO=>?_
  have HO:=ab hO
  clear hO
  unfold aO dE dJ
  repeat' first|refine st ?_|(refine ca ?_;apply k0)|(refine br ?_ ?_<;>intro hb)|fail
  (apply bN HO.out H.out;(· simp);(· (simp only [go_sem, *];try rfl));(· (simp only [go_sem, *];try rfl));(· (simp only [go_sem, *,results219];try rfl)))
 rw [if_neg c64] at h
 try simp only [aG] at h
 have d48:decide ((b:Int)<48)=false:=by simp;omega
 have d60:decide ((b:Int)<60)=false:=by simp;omega
 have d64:decide ((b:Int)<64)=false:=by simp;omega
 have k0:=Cq w0 X p l b hl hs
 simp only [aO,dE,dJ] at k0
 have H:=ab h
 clear h hl hp hb
 refine eN func219 rfl ntmps219 fun hO=>?_
 have HO:=ab hO
 clear hO
 unfold aO dE dJ
 repeat' first|refine st ?_|(refine ca ?_;apply k0)|(refine br ?_ ?_<;>intro hb)|fail
 (apply bN HO.out H.out;(· simp);(· (simp only [go_sem, *];try rfl));(· (simp only [go_sem, *];try rfl));(· (simp only [go_sem, *,results219];try rfl)))
theorem zl(w0:World)(X:List aH)(p:Ps)(l:List Ev)(b:Nat)(hl:l.length≤1000000)(hp:fF p)(hb:b<256)(R:Rt)(h:R (.ret (.tup [])) (aO X (kp p b).1 (l++(kp p b).2))):aj prog w0 220 [.own X.length 0,.int .u8 b] (aO X p l) R:=by
 unfold kp at h
 have hs:=hp.st
 have hi:=hp.inter
 by_cases c48:b<48
 ·rw [if_pos c48] at h
  try simp only [aG] at h
  have d48:decide ((b:Int)<48)=true:=by simp;omega
  have hw:ae.wrap ((p.st:Int)+1)=((p.st+1:Nat):Int):=by rw [ah _ (by omega)];omega
  have k0:=wi w0 X { p with st:=p.st+1 } l b hi
  simp only [aO,dE,dJ] at k0
  have H:=ab h
  clear h hl hp hb
  refine eN func220 rfl ntmps220 fun hO=>?_
  have HO:=ab hO
  clear hO
  unfold aO dE dJ
  repeat' first|refine st ?_|(refine ca ?_;apply k0)|(refine br ?_ ?_<;>intro hb)|fail
  (apply bN HO.out H.out;(· simp);(· (simp only [go_sem, *];try rfl));(· (simp only [go_sem, *];try rfl));(· (simp only [go_sem, *,results220];try rfl)))
 rw [if_neg c48] at h
 by_cases c60:b<60
 ·rw [if_pos c60] at h
  try simp only [aG] at h
  have d48:decide ((b:Int)<48)=false:=by simp;omega
  have d60:decide ((b:Int)<60)=true:=by simp;omega
  have k0:=Cx w0 X p l b hb hp.pars
  simp only [aO,dE,dJ] at k0
  have H:=ab h
  clear h hl hp hb
  refine eN func220 rfl ntmps220 fun hO=>?_
  have HO:=ab hO
  clear hO
  unfold aO dE dJ
  repeat' first|refine st ?_|(refine ca ?_;apply k0)|(refine br ?_ ?_<;>intro hb)|fail
  (apply bN HO.out H.out;(· simp);(· (simp only [go_sem, *];try rfl));(· (simp only [go_sem, *];try rfl));(· (simp only [go_sem, *,results220];try rfl)))
 rw [if_neg c60] at h
 by_cases c64:b<64
 ·rw [if_pos c64] at h
  try simp only [aG] at h
  have d48:decide ((b:Int)<48)=false:=by simp;omega
  have d60:decide ((b:Int)<60)=false:=by simp;omega
  have d64:decide ((b:Int)<64)=true:=by simp;omega
  have k0:=rk w0 X p l
  simp only [aO,dE,dJ] at k0
  have H:=ab h
  clear h hl hp hb
  refine eN func220 rfl ntmps220 fun hO=>?_
  have HO:=ab hO
  clear hO
  unfold aO dE dJ
  repeat' first|refine st ?_|(refine ca ?_;apply k0)|(refine br ?_ ?_<;>intro hb)|fail
  (apply bN HO.out H.out;(· simp);(· (simp only [go_sem, *];try rfl));(· (simp only [go_sem, *];try rfl));(· (simp only [go_sem, *,results220];try rfl)))
 rw [if_neg c64] at h
 try simp only [aG] at h
 have d48:decide ((b:Int)<48)=false:=by simp;omega
 have d60:decide ((b:Int)<60)=false:=by simp;omega
 have d64:decide ((b:Int)<64)=false:=by simp;omega
 have k0:=Cq w0 X p l b hl hs
 simp only [aO,dE,dJ] at k0
 have H:=ab h
 clear h hl hp hb
 refine eN func220 rfl ntmps220 fun hO=>?_
 have HO:=ab hO
 clear hO
 unfold aO dE dJ
 repeat' first|refine st ?_|(refine ca ?_;apply k0)|(refine br ?_ ?_<;>intro hb)|fail
 (apply bN HO.out H.out;(· simp);(· (simp only [go_sem, *];try rfl));(· (simp only [go_sem, *];try rfl));(· (simp only [go_sem, *,results220];try rfl)))
theorem zm(w0:World)(X:List aH)(p:Ps)(l:List Ev)(b:Nat)(hl:l.length≤1000000)(hp:fF p)(hb:b<256)(R:Rt)(h:R (.ret (.tup [])) (aO X (kv p b).1 (l++(kv p b).2))):aj prog w0 221 [.own X.length 0,.int .u8 b] (aO X p l) R:=by
 unfold kv at h
 have hs:=hp.st
 have hi:=hp.inter
 by_cases c48:b<48
 ·rw [if_pos c48] at h
  try simp only [aG] at h
  have d48:decide ((b:Int)<48)=true:=by simp;omega
  have k0:=wi w0 X p l b hi
  simp only [aO,dE,dJ] at k0
  have H:=ab h
  clear h hl hp hb
  refine eN func221 rfl ntmps221 fun hO=>?_
  have HO:=ab hO
  clear hO
  unfold aO dE dJ
  repeat' first|refine st ?_|(refine ca ?_;apply k0)|(refine br ?_ ?_<;>intro hb)|fail
  (apply bN HO.out H.out;(· simp);(· (simp only [go_sem, *];try rfl));(· (simp only [go_sem, *];try rfl));(· (simp only [go_sem, *,results221];try rfl)))
 rw [if_neg c48] at h
 by_cases c64:b<64
 ·rw [if_pos c64] at h
  try simp only [aG] at h
  have d48:decide ((b:Int)<48)=false:=by simp;omega
  have d64:decide ((b:Int)<64)=true:=by simp;omega
  have k0:=rk w0 X p l
  simp only [aO,dE,dJ] at k0
  have H:=ab h
  clear h hl hp hb
  refine eN func221 rfl ntmps221 fun hO=>?_
  have HO:=ab hO
  clear hO
  unfold aO dE dJ
  repeat' first|refine st ?_|(refine ca ?_;apply k0)|(refine br ?_ ?_<;>intro hb)|fail
  (apply bN HO.out H.out;(· simp);(· (simp only [go_sem, *];try rfl));(· (simp only [go_sem, *];try rfl));(· (simp only [go_sem, *,results221];try rfl)))
 rw [if_neg c64] at h
 try simp only [aG] at h
 have d48:decide ((b:Int)<48)=false:=by simp;omega
 have d64:decide ((b:Int)<64)=false:=by simp;omega
 have k0:=Cq w0 X p l b hl hs
 simp only [aO,dE,dJ] at k0
 have H:=ab h
 clear h hl hp hb
 refine eN func221 rfl ntmps221 fun hO=>?_
 have HO:=ab hO
 clear hO
 unfold aO dE dJ
 repeat' first|refine st ?_|(refine ca ?_;apply k0)|(refine br ?_ ?_<;>intro hb)|fail
 (apply bN HO.out H.out;(· simp);(· (simp only [go_sem, *];try rfl));(· (simp only [go_sem, *];try rfl));(· (simp only [go_sem, *,results221];try rfl)))
def qX:AV:=.agg [.fn (.func 216) [] [],.fn (.func 217) [] [],.fn (.func 218) [] [],.fn (.func 219) [] [],.fn (.func 220) [] [],.fn (.func 221) [] [],.fnil,.fnil,.fn (.func 219) [] [],.fn (.func 220) [] [],.fn (.func 221) [] [],.fnil,.fnil,.fnil,.fnil]
theorem oe(R:Rt)(h:R (.ret qX) S):aj prog w0 171 [] S R:=by
 unfold qX at h
 have H:=ab h
 clear h
 refine eN func171 rfl ntmps171 fun hO=>?_
 repeat' first|refine st ?_|(refine br ?_ ?_<;>intro hb)|fail
 refine fR results171 ?_
 exact H.out
theorem EI(w0:World)(X:List aH)(p:Ps)(l:List Ev)(b:Nat)(hl:l.length≤1000000)(hp:fF p)(hb:b<256)(R:Rt)(h:R (.ret (.tup [])) (aO X (jA p b).1 (l++(jA p b).2))):aj prog w0 169 [.own X.length 0,.int .u8 b] (aO X p l) R:=by
 have hs:=hp.st
 have ht:=hp.text
 unfold jA at h
 by_cases c1:b=7∧p.st=6
 ·rw [if_pos c1] at h
  have e7:((b:Int)==7)=true:=by simp;omega
  have e6:((p.st:Int)==6)=true:=by simp;omega
  have k0:=tj w0 X p l (tS p) hl
  rw [show (tS p).av=.agg [.int .i64 5,.int .i64 0,.int .u8 0,.int .u8 0,.sval false [],.str [],.str p.text] from rfl] at k0
  simp only [aO,dE,dJ] at k0
  have H:=ab h
  clear h hl hp hb c1
  refine eN func169 rfl ntmps169 fun hO=>?_
  have HO:=ab hO
  clear hO
  unfold aO dE dJ
  repeat' first|refine st ?_|(refine ca ?_;apply k0)|(refine br ?_ ?_<;>intro hb)|fail
  (apply bN HO.out H.out;(· simp);(· (simp only [go_sem, *];try rfl));(· (simp only [go_sem, *];try rfl));(· (simp only [go_sem, *,results169];try rfl)))
 rw [if_neg c1] at h
 have f7:((b:Int)==7)=false∨((b:Int)==7)=true∧((p.st:Int)==6)=false:=by
  simp only [beq_eq_false_iff_ne,beq_iff_eq]
  omega
 have e67:∃ u:Bool,((p.st:Int)==6)=u:=⟨_,rfl⟩
 by_cases c2:b<32∨b=127∨p.st=13∨p.bad=true
 ·rw [if_pos c2] at h
  simp only [aG] at h
  have c3:(decide ((b:Int)<32)=true)∨(decide ((b:Int)<32)=false∧((b:Int)==127)=true)∨(decide ((b:Int)<32)=false∧((b:Int)==127)=false∧((p.st:Int)==13)=true)∨(decide ((b:Int)<32)=false∧((b:Int)==127)=false∧((p.st:Int)==13)=false∧p.bad=true):=by
   simp only [beq_eq_false_iff_ne,beq_iff_eq,decide_eq_true_eq,decide_eq_false_iff_not]
   by_cases g1:b<32
   ·left;omega
   by_cases g2:b=127
   ·right;left;omega
   by_cases g3:p.st=13
   ·right;right;left;omega
   ·right;right;right
    have g4:p.bad=true:=by simpa [g1,g2,g3] using c2
    exact⟨by omega,by omega,by omega,g4⟩
  have H:=ab h
  clear h hl hp hb c1 c2 hs ht
  clear e67
  obtain⟨s0,utf,pv,fn,pars,inter,text,bad⟩:=p
  simp only at c3 f7
  rcases c3 with d1|⟨d1,d2⟩|⟨d1,d2,d3⟩|⟨d1,d2,d3,rfl⟩<;>rcases f7 with f7|⟨f7,f6⟩
  all_goals
   refine eN func169 rfl ntmps169 fun hO=>?_
   have HO:=ab hO
   clear hO
   simp only [aO,dE,dJ]
   repeat' first|refine st ?_|(refine br ?_ ?_<;>intro hb)|fail
   (apply bN HO.out H.out;(· simp);(· (simp only [go_sem, *];try rfl));(· (simp only [go_sem, *];try rfl));(· (simp only [go_sem, *,results169];try rfl)))
 rw [if_neg c2] at h
 rw [not_or,not_or,not_or] at c2
 obtain⟨g1,g2,g3,g4⟩:=c2
 have d1:decide ((b:Int)<32)=false:=by simp;omega
 have d2:((b:Int)==127)=false:=by rw [beq_eq_false_iff_ne];omega
 have d3:((p.st:Int)==13)=false:=by rw [beq_eq_false_iff_ne];omega
 have d4:p.bad=false:=by simpa using g4
 by_cases c5:p.text.length=512
 ·rw [if_pos c5] at h
  simp only [aG] at h
  clear e67
  have d5:((p.text.length:Int)==512)=true:=by simp;omega
  have k0:=rk w0 X p l
  have H:=ab h
  simp only [aO,dE,dJ] at k0
  clear h hl hp hb c1 g1 g2 g3 g4 c5 hs ht
  rcases f7 with f7|⟨f7,f6⟩
  all_goals
   refine eN func169 rfl ntmps169 fun hO=>?_
   have HO:=ab hO
   clear hO
   unfold aO dE dJ
   rw [d4] at k0 ⊢
   repeat' first|refine st ?_|(refine ca ?_;apply k0)|(refine br ?_ ?_<;>intro hb)|fail
   (apply bN HO.out H.out;(· simp);(· (simp only [go_sem, *];try rfl));(· (simp only [go_sem, *];try rfl));(· (simp only [go_sem, *,results169];try rfl)))
 ·rw [if_neg c5] at h
  simp only [aG] at h
  have d5:((p.text.length:Int)==512)=false:=by rw [beq_eq_false_iff_ne];omega
  have d6:p.text.length+1≤9223372036854775807:=by omega
  have H:=ab h
  clear h hl hp hb c1 g1 g2 g3 g4 c5 hs ht
  rcases f7 with f7|⟨f7,f6⟩
  all_goals
   refine eN func169 rfl ntmps169 fun hO=>?_
   have HO:=ab hO
   clear hO
   unfold aO dE dJ
   rw [d4]
   repeat' first|refine st ?_|(refine br ?_ ?_<;>intro hb)|refine sd ?_|refine sx ?_|apply au|(apply aF;(· decide +kernel))|refine bd ?_ ?_|fail
   (apply bN HO.out H.out;(· simp);(· (simp only [go_sem, *];try rfl));(· (simp only [go_sem, *];try rfl));(· (simp only [go_sem, *,results169];try rfl)))
def dH(p:Ps)(b:Nat):Prop:=¬ (p.st=0∧(p.utf≠[]∨128≤b))
theorem ia{p:Ps}{b:Nat}(h:dH p b):(((p.st:Int)==0)=true∧decide ((0:Int)<(p.utf.length:Int))=false∧decide ((128:Int)≤(b:Int))=false∧((p.st:Int)==6)=false∧((p.st:Int)==11)=false∧((p.st:Int)==13)=false)∨((p.st:Int)==0)=false:=by
 unfold dH at h
 simp only [beq_iff_eq,beq_eq_false_iff_ne,decide_eq_false_iff_not]
 by_cases h0:p.st=0
 ·left
  have h1:¬ (p.utf≠[]∨128≤b):=fun h'=>h ⟨h0,h'⟩
  rw [not_or] at h1
  have h2:p.utf=[]:=Classical.not_not.1 h1.1
  have h3:p.utf.length=0:=by rw [h2];rfl
  omega
 ·right;omega
theorem jQ(n:Nat):(gg n=true∧(((n:Int)==6)=true∨(((n:Int)==6)=false∧((n:Int)==11)=true)∨(((n:Int)==6)=false∧((n:Int)==11)=false∧((n:Int)==13)=true)))∨(gg n=false∧((n:Int)==6)=false∧((n:Int)==11)=false∧((n:Int)==13)=false):=by
 unfold gg
 simp only [beq_iff_eq,beq_eq_false_iff_ne,eF,ct]
 omega
theorem vj{n:Nat}(h:jY n=false):((n:Int)==7)=false∧((n:Int)==12)=false∧((n:Int)==14)=false:=by
 unfold jY at h
 simp only [beq_eq_false_iff_ne,ct] at h ⊢
 omega
theorem EY(w0:World)(X:List aH)(p:Ps)(l:List Ev)(b:Nat)(hl:l.length≤1000000)(hp:fF p)(hb:b<256)(hn:dH p b)(hc:b=24∨b=26)(R:Rt)(h:R (.ret (.tup [])) (aO X (dg 0) l)):aj prog w0 82 [.own X.length 0,.int .u8 b] (aO X p l) R:=by
 have c1:=ia hn
 have c2:=jQ p.st
 have c3:((b:Int)==24)=true∨((b:Int)==24)=false∧((b:Int)==26)=true:=by simp only [beq_iff_eq,beq_eq_false_iff_ne];omega
 have k0:=gu w0 X p l 0
 simp only [aO,dE,dJ] at k0
 have H:=ab h
 clear h hl hp hb hn hc
 rcases c3 with c3|⟨c3,c4⟩<;>rcases c2 with⟨_,c2|⟨c5,c2⟩|⟨c5,c6,c2⟩⟩|⟨_,c5,c6,c7⟩<;>rcases c1 with⟨c8,c9,c10,c11,c12,c13⟩|c8
 all_goals first
  | (rw [c2] at c11;cases c11;done)
  | (rw [c2] at c12;cases c12;done)
  | (rw [c2] at c13;cases c13;done)
  | skip
 all_goals
  refine eN func82 rfl ntmps82 fun hO=>?_
  have HO:=ab hO
  clear hO
  unfold aO dE dJ
  repeat' first|refine st ?_|(refine ca ?_;apply k0)|(refine br ?_ ?_<;>intro hb)|fail
  (apply bN HO.out H.out;(· simp);(· (simp only [go_sem, *];try rfl));(· (simp only [go_sem, *];try rfl));(· (simp only [go_sem, *,results82];try rfl)))
theorem EX(w0:World)(X:List aH)(p:Ps)(l:List Ev)(b:Nat)(hl:l.length≤1000000)(hp:fF p)(hb:b<256)(hn:dH p b)(hc:b=27)(ht:gg p.st=true)(R:Rt)(h:R (.ret (.tup [])) (aO X { p with st:=p.st+1 } l)):aj prog w0 82 [.own X.length 0,.int .u8 b] (aO X p l) R:=by
 have c1:((p.st:Int)==0)=false:=by rw [beq_eq_false_iff_ne];unfold gg at ht;simp only [eF,beq_iff_eq] at ht;omega
 have c2:=jQ p.st
 have hs:=hp.st
 have hw:ae.wrap ((p.st:Int)+1)=((p.st+1:Nat):Int):=by rw [ah _ (by omega)];omega
 subst hc
 have H:=ab h
 clear h hl hp hb hn hs
 rcases c2 with⟨_,c2|⟨c5,c2⟩|⟨c5,c6,c2⟩⟩|⟨c2,_⟩
 rotate_right
 ·rw [ht] at c2;cases c2
 all_goals
  refine eN func82 rfl ntmps82 fun hO=>?_
  have HO:=ab hO
  clear hO
  unfold aO dE dJ
  repeat' first|refine st ?_|(refine br ?_ ?_<;>intro hb)|fail
  (apply bN HO.out H.out;(· simp);(· (simp only [go_sem, *];try rfl));(· (simp only [go_sem, *];try rfl));(· (simp only [go_sem, *,results82];try rfl)))
theorem EW(w0:World)(X:List aH)(p:Ps)(l:List Ev)(b:Nat)(hl:l.length≤1000000)(hp:fF p)(hb:b<256)(hn:dH p b)(hc:b=27)(ht:gg p.st=false)(R:Rt)(h:R (.ret (.tup [])) (aO X (dg 1) l)):aj prog w0 82 [.own X.length 0,.int .u8 b] (aO X p l) R:=by
 have c1:=ia hn
 have c2:=jQ p.st
 have k0:=gu w0 X p l 1
 simp only [aO,dE,dJ] at k0
 subst hc
 have H:=ab h
 clear h hl hp hb hn
 rcases c2 with⟨c2,_⟩|⟨_,c5,c6,c7⟩
 ·rw [ht] at c2;cases c2
 rcases c1 with⟨c8,c9,_⟩|c8
 all_goals
  refine eN func82 rfl ntmps82 fun hO=>?_
  have HO:=ab hO
  clear hO
  unfold aO dE dJ
  repeat' first|refine st ?_|(refine ca ?_;apply k0)|(refine br ?_ ?_<;>intro hb)|fail
  (apply bN HO.out H.out;(· simp);(· (simp only [go_sem, *];try rfl));(· (simp only [go_sem, *];try rfl));(· (simp only [go_sem, *,results82];try rfl)))
theorem EV(w0:World)(X:List aH)(p:Ps)(l:List Ev)(b:Nat)(hl:l.length≤1000000)(hp:fF p)(hb:b<256)(hn:dH p b)(hc:b≠24∧b≠26∧b≠27)(ht:gg p.st=true)(R:Rt)(h:R (.ret (.tup [])) (aO X (jA p b).1 (l++(jA p b).2))):aj prog w0 82 [.own X.length 0,.int .u8 b] (aO X p l) R:=by
 have c1:((p.st:Int)==0)=false∧((p.st:Int)==7)=false∧((p.st:Int)==12)=false∧((p.st:Int)==14)=false:=by simp only [beq_eq_false_iff_ne];unfold gg at ht;simp only [eF,beq_iff_eq] at ht;omega
 obtain⟨q1,q2,q3,q4⟩:=c1
 have c2:=jQ p.st
 have e24:((b:Int)==24)=false:=by rw [beq_eq_false_iff_ne];omega
 have e26:((b:Int)==26)=false:=by rw [beq_eq_false_iff_ne];omega
 have e27:((b:Int)==27)=false:=by rw [beq_eq_false_iff_ne];omega
 have k0:=EI w0 X p l b hl hp hb
 simp only [aO,dE,dJ] at k0
 have H:=ab h
 clear h hl hp hb hn hc
 rcases c2 with⟨_,c2|⟨c5,c2⟩|⟨c5,c6,c2⟩⟩|⟨c2,_⟩
 rotate_right
 ·rw [ht] at c2;cases c2
 all_goals
  refine eN func82 rfl ntmps82 fun hO=>?_
  have HO:=ab hO
  clear hO
  unfold aO dE dJ
  repeat' first|refine st ?_|(refine ca ?_;apply k0)|(refine br ?_ ?_<;>intro hb)|fail
  (apply bN HO.out H.out;(· simp);(· (simp only [go_sem, *];try rfl));(· (simp only [go_sem, *];try rfl));(· (simp only [go_sem, *,results82];try rfl)))
theorem EU(w0:World)(X:List aH)(p:Ps)(l:List Ev)(b:Nat)(hl:l.length≤1000000)(hp:fF p)(hb:b<256)(hn:dH p b)(hc:b≠24∧b≠26∧b≠27)(hc2:b<32)(ht:gg p.st=false)(he:jY p.st=false)(R:Rt)(h:R (.ret (.tup [])) (aO X p (l++if p.st≤5 then [wW b] else []))):aj prog w0 82 [.own X.length 0,.int .u8 b] (aO X p l) R:=by
 have c1:=ia hn
 have c2:=jQ p.st
 obtain⟨q2,q3,q4⟩:=vj he
 rcases c2 with⟨c2,_⟩|⟨_,c5,c6,c7⟩
 ·rw [ht] at c2;cases c2
 have e24:((b:Int)==24)=false:=by rw [beq_eq_false_iff_ne];omega
 have e26:((b:Int)==26)=false:=by rw [beq_eq_false_iff_ne];omega
 have e27:((b:Int)==27)=false:=by rw [beq_eq_false_iff_ne];omega
 have d128:decide ((128:Int)≤(b:Int))=false:=by simp;omega
 have d32:decide ((b:Int)<32)=true:=by simp;omega
 have hw:ae.wrap (b:Int)=(b:Int):=ah _ (by omega)
 have k0:=zk w0 X p l (wW b) hl
 rw [show (wW b).av=.agg [.int .i64 2,.int .i64 b,.int .u8 0,.int .u8 0,.sval false [],.str [],.str []] from rfl] at k0
 simp only [aO,dE,dJ] at k0
 by_cases h5:p.st≤5
 ·rw [if_pos h5] at h
  have d5:decide ((p.st:Int)≤5)=true:=by simp;omega
  have H:=ab h
  clear h hl hp hb hn hc hc2 h5
  rcases c1 with⟨c8,c9,_⟩|c8
  all_goals
   refine eN func82 rfl ntmps82 fun hO=>?_
   have HO:=ab hO
   clear hO
   unfold aO dE dJ
   repeat' first|refine st ?_|(refine ca ?_;apply k0)|(refine br ?_ ?_<;>intro hb)|fail
   (apply bN HO.out H.out;(· simp);(· (simp only [go_sem, *];try rfl));(· (simp only [go_sem, *];try rfl));(· (simp only [go_sem, *,results82];try rfl)))
 ·rw [if_neg h5,aG] at h
  have d5:decide ((p.st:Int)≤5)=false:=by simp;omega
  have H:=ab h
  clear h hl hp hb hn hc hc2 h5
  rcases c1 with⟨c8,c9,_⟩|c8
  all_goals
   refine eN func82 rfl ntmps82 fun hO=>?_
   have HO:=ab hO
   clear hO
   unfold aO dE dJ
   repeat' first|refine st ?_|(refine br ?_ ?_<;>intro hb)|fail
   (apply bN HO.out H.out;(· simp);(· (simp only [go_sem, *];try rfl));(· (simp only [go_sem, *];try rfl));(· (simp only [go_sem, *,results82];try rfl)))
theorem ET(w0:World)(X:List aH)(p:Ps)(l:List Ev)(b:Nat)(hl:l.length≤1000000)(hp:fF p)(hb:b<256)(hn:dH p b)(hc:b=127)(ht:gg p.st=false)(he:jY p.st=false)(R:Rt)(h:R (.ret (.tup [])) (aO X p l)):aj prog w0 82 [.own X.length 0,.int .u8 b] (aO X p l) R:=by
 have c1:=ia hn
 have c2:=jQ p.st
 obtain⟨q2,q3,q4⟩:=vj he
 rcases c2 with⟨c2,_⟩|⟨_,c5,c6,c7⟩
 ·rw [ht] at c2;cases c2
 subst hc
 have H:=ab h
 clear h hl hp hb hn
 rcases c1 with⟨c8,c9,_⟩|c8
 all_goals
  refine eN func82 rfl ntmps82 fun hO=>?_
  have HO:=ab hO
  clear hO
  unfold aO dE dJ
  repeat' first|refine st ?_|(refine br ?_ ?_<;>intro hb)|fail
  (apply bN HO.out H.out;(· simp);(· (simp only [go_sem, *];try rfl));(· (simp only [go_sem, *];try rfl));(· (simp only [go_sem, *,results82];try rfl)))
end Go.Proofs.YthdbijpefkapnaaGreatDoor
