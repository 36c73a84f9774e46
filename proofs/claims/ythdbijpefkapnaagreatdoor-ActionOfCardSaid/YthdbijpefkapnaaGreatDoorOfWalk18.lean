/- A part of the proof. -/
import Derived.Test.YthdbijpefkapnaaGreatDoorOfWalk16
set_option linter.all false
set_option maxHeartbeats 40000000
open Bool renaming or_eq_false_iff → cF, or_eq_true → ef
open Go.IntKind renaming i64 → ae, u8 → a6
open Go.IntWalk renaming i64_in → ai, u8_in → cR
open Go.Lib renaming hid → ab
open List renaming all_eq_true → aD, append_nil → aG, length_append → ah, length_cons → aB, length_nil → aI, map_append → aM, map_cons → al, map_nil → aj, mem_map → aN, nil_append → gu, set_append_right → eI
open Nat renaming le_refl → ba, sub_self → la, zero_add → bG, zero_le → bf
namespace Go.Proofs.YthdbijpefkapnaaGreatDoor
open Go Go.Fen Go.Proofs.Tryz
attribute [local irreducible] aX WP ao dS i7 cJ aU cC
set_option maxRecDepth 8000
variable (w0:World) (S:List aH)
def dL(p:Ps)(b g:Nat):aH:=.cells [.int .i64 p.st,.sval false (p.utf.map By),.int .u8 p.pv,.int .u8 p.fn,.sval false (p.pars.map ct),.str p.inter,.str p.text,.bool p.bad,.sown b g g]
def dU(l:List Ev):aH:=.arr 40 7 0 l.length (l.map Ev.av)
def aQ(X:List aH)(p:Ps)(l:List Ev):List aH:=X++[dL p (X.length+1) l.length,dU l]
@[go_sem] theorem Ev.ltL(l:List Ev)(n:Nat):ltL n (l.map Ev.av)=true:=c_.2 fun x hx=>by
 obtain⟨y,_,rfl⟩:=aN.1 hx
 simp only [Ev.av,AV.lt,Go.Fen.ltL,ct.ltL,Bool.and_self]
@[go_sem] theorem Ev.ok(l:List Ev):cI 7 (l.map Ev.av)=true:=by
 unfold cI;rw [aD];intro x hx;obtain⟨y,_,rfl⟩:=aN.1 hx;rfl
theorem KM(X:List aH)(p:Ps)(g:Nat):(dL p (X.length+1) g).ltB (X.length+2)=true:=by
 simp [dL,aH.ltB,Go.Fen.ltL,AV.lt,By.ltL,ct.ltL]
theorem zA(l:List Ev)(n:Nat):(dU l).ltB n=true:=by
 simp [dU,aH.ltB,Ev.ltL]
theorem Ed(X:List aH)(p:Ps)(l:List Ev):(aQ X p l).length=X.length+2:=by simp [aQ]
theorem il{X:List aH}{p q:Ps}{l k:List Ev}(h:bH (aQ X p l)):bH (aQ X q k):=ny h (KM X q _) (zA k _)
section
variable {P:Program}{w0:World}{F:Func}{S0 S X L:List aH}{R:gL→List aH→Prop}{ms vs:List AV}{env:du}{B C:aH}
theorem wg(h0:env DS=.dfr ms)(h01:fa ms S=some (X++B::C::L))(h1:gr P env (X++B::C::L) F.results.toList=some [])(hl:X.length+2=S0.length)(hB:bH (X++[B,C]))(h:R (.ret (.tup [])) (X++[B,C])):jV P F S0 R .ret env S:=by
 have e:X++B::C::L=(X++[B,C])++L:=χ
 rw [e] at h01 h1
 exact EB h0 h01 κ hB h1 rfl rfl h
theorem zz(h0:env DS=.dfr ms)(h01:fa ms S=some (X++B::C::L))(h1:gr P env (X++B::C::L) F.results.toList=some [])(hl:X.length+2=S0.length)(hB:bH (X++[B,C]))(h:R (.ret (.tup [])) (X++[B,C])):jV P F S0 R .normal env S :=
 wg h0 h01 h1 hl hB h
end
theorem rP{P:Program}{w0:World}{n0 N:Nat}{r:Option Nat}{Q:bU}{k:List TI}{env:du}{S X:List aH}{it:KI}{B C:aH}{cs:List AV}{ty:Option TypeId}(t:Nat)(sl:List Nat)(hS:S=X++[B,C,.cells cs ty])(hO:bH (X++[B,C]))(hn:n0=X.length+2)(ht:env t=.own (X.length+2) 0)
  (hds:(env DS).lt (X.length+2)=true) (hsl:(sl.all fun u=>(eY env t (.pro cs) u).lt (X.length+2))=true) (h:aX P w0 n0 N r (.it it::k) Q .normal (iJ sl (eY env t (.pro cs))) (X++[B,C])):aX P w0 n0 N r (.it it::k) Q .normal env S:=by
 have hl:(X++[B,C]).length=X.length+2:=χ
 have hS':S=(X++[B,C])++[.cells cs ty]:=by rw [hS];simp
 refine IX (X++[B,C]) sl hS' hO (hn.trans hl.symm) (by rw [hl];exact ht) (by rw [hl];exact hds) (by rw [hl];exact hsl) h
section
variable {P:Program}{F:Func}{S0 S X L:List aH}{R:gL→List aH→Prop}{ms:List AV}{env:du}{p q:Ps}{l k:List Ev}
theorem oA(hO:bH (aQ X p l))(h:R (.ret (.tup [])) (aQ X q k))(hl:X.length+2=S0.length)(h0:env DS=.dfr ms)(h01:fa ms S=some (X++dL q (X.length+1) k.length::dU k::L))(h1:gr P env (X++dL q (X.length+1) k.length::dU k::L) F.results.toList=some []):jV P F S0 R .ret env S :=
 wg h0 h01 h1 hl (il hO) h
theorem bS(hO:bH (aQ X p l))(h:R (.ret (.tup [])) (aQ X q k))(hl:X.length+2=S0.length)(h0:env DS=.dfr ms)(h01:fa ms S=some (X++dL q (X.length+1) k.length::dU k::L))(h1:gr P env (X++dL q (X.length+1) k.length::dU k::L) F.results.toList=some []):jV P F S0 R .normal env S :=
 oA hO h hl h0 h01 h1
end
theorem xc{X:List aH}{cs:List AV}{ty:Option TypeId}{E:aH}{p:Ps}{l:List Ev}(h1:aH.cells (cs.map softV) ty=dL p (X.length+1) l.length)(h2:E=dU l){R:gL→List aH→Prop}{o:gL}(h:R o (aQ X p l)) :
  ∃ cs' ty',(X++[aH.cells cs ty,E])[X.length]? = some (.cells cs' ty')∧R o ((X++[aH.cells cs ty,E]).set X.length (.cells (cs'.map softV) ty')):=by
 subst h2
 refine⟨cs,ty,χ, ?_⟩
 rw [eI _ _ (ba _),la,List.set_cons_zero,h1]
 exact h
theorem gJ(w0:World)(X:List aH)(p:Ps)(l:List Ev)(n:Nat)(R:Rt)(h:R (.ret (.tup [])) (aQ X (bp n) l)):ao prog w0 167 [.own X.length 0,.int .i64 n] (aQ X p l) R:=by
 refine ao.softC X.length ?_
 have H:=ab h
 clear h
 refine eN func167 rfl ntmps167 fun hO=>?_
 have HO:=ab hO
 clear hO
 unfold aQ dL
 refine ε0 ?_
 refine K8 results167 ?_ ?_ ?_
 ·exact ny HO.out (by simp [aH.ltB,Go.Fen.ltL,AV.lt]) (zA _ _)
 ·simp [aQ]
 ·exact xc rfl rfl H.out
theorem sb(w0:World)(X:List aH)(p:Ps)(l:List Ev)(R:Rt)(h:R (.ret (.tup [])) (aQ X (p7 p.st) l)):ao prog w0 215 [.own X.length 0] (aQ X p l) R:=by
 refine ao.softC X.length ?_
 have H:=ab h
 clear h
 refine eN func215 rfl ntmps215 fun hO=>?_
 have HO:=ab hO
 clear hO
 unfold aQ dL
 refine ε0 ?_
 refine K8 results215 ?_ ?_ ?_
 ·exact ny HO.out (by simp [aH.ltB,Go.Fen.ltL,AV.lt]) (zA _ _)
 ·simp [aQ]
 ·exact xc rfl rfl H.out
theorem Ar(w0:World)(X:List aH)(p:Ps)(l:List Ev)(e:Ev)(hl:l.length≤1000000)(R:Rt)(h:R (.ret (.tup [])) (aQ X p (l++[e]))):ao prog w0 170 [.own X.length 0,e.av] (aQ X p l) R:=by
 have H:=ab h
 clear h
 have hb:(l.length+1) * 80≤140737488355328:=ω
 rw [show e.av=.agg [.int .i64 e.kind,.int .i64 e.code,.int .u8 e.priv,.int .u8 e.fin,.sval false (e.pars.map ct),.str e.inter,.str e.text] from rfl]
 refine eN func170 rfl ntmps170 fun hO=>?_
 have HO:=ab hO
 clear hO hl
 unfold aQ dL dU
 repeat' first|refine st ?_|(refine br ?_ ?_<;>intro hb)|refine sd ?_|refine sx ?_|apply aw|(apply aF;(· decide +kernel))|refine bd ?_ ?_|fail
 apply zz
 ·exact ss
 ·exact ss
 ·(simp only [go_sem, *,results170];try rfl)
 ·simp
 ·exact ny HO.out (by simp [aH.ltB,Go.Fen.ltL,AV.lt,By.ltL,ct.ltL]) (by rw [AJ,sE,Ev.ltL];simp [Go.Fen.ltL,AV.lt,ct.ltL])
 ·have H1:=H.out
  simp only [aQ,dL,dU,ah,aB,aI,aM,al,aj,bG] at H1
  exact H1
theorem uN(p:Ps)(e:Ev):(gN p e).2.length≤1:=by
 unfold gN
 split<;>simp
theorem uk(w0:World)(X:List aH)(p:Ps)(l:List Ev)(e:Ev)(hl:l.length≤1000000)(R:Rt)(h:R (.ret (.tup [])) (aQ X (gN p e).1 (l++(gN p e).2))):ao prog w0 214 [.own X.length 0,e.av] (aQ X p l) R:=by
 have htell:=Ar w0 X p l e hl
 have hbeg:=fun l=>gJ w0 X p l 0
 have hbe2:=gJ w0 X p (l++[e]) 0
 unfold gN at h
 rw [show e.av=.agg [.int .i64 e.kind,.int .i64 e.code,.int .u8 e.priv,.int .u8 e.fin,.sval false (e.pars.map ct),.str e.inter,.str e.text] from rfl] at htell ⊢
 have H:=ab h
 clear h hl
 refine eN func214 rfl ntmps214 fun hO=>?_
 have HO:=ab hO
 clear hO
 repeat' ((fail_if_success (apply dk 4 rfl));first|refine st ?_|(refine br ?_ ?_<;>intro hb)|fail)
 refine IX (aQ X p l) (t:=3) [0,3] rfl HO.out rfl ss ss ?_ ?_
 ·simp only [go_sem, *,Ed]
 unfold aQ dL dU
 cases hb:p.bad
 ·have hb2:=hbe2
  simp only [aQ,dL,dU,hb] at htell hb2
  clear hbeg hbe2
  refine ε2 htell hb2 ?_
  apply zz (L:=[])
  ·exact ss
  ·exact ss
  ·(simp only [go_sem, *,results214];try rfl)
  ·simp
  ·exact il (q:=bp 0) (k:=l++[e]) HO.out
  ·have H1:=H.out
   rw [hb] at H1
   exact H1
 ·have hb2:=hbeg l
  simp only [aQ,dL,dU,hb] at hb2
  clear hbeg hbe2 htell
  refine ε1 hb2 ?_
  apply zz (L:=[])
  ·exact ss
  ·exact ss
  ·(simp only [go_sem, *,results214];try rfl)
  ·simp
  ·exact il (q:=bp 0) (k:=l) HO.out
  ·have H1:=H.out
   rw [hb] at H1
   simp only [if_true,aG] at H1
   exact H1
theorem xi(w0:World)(X:List aH)(p:Ps)(l:List Ev)(b:Nat)(hi:p.inter.length≤2)(R:Rt)(h:R (.ret (.tup [])) (aQ X (i6 p b) l)):ao prog w0 260 [.own X.length 0,.int .u8 b] (aQ X p l) R:=by
 have hsp:=sb w0 X p l
 by_cases hc:p.bad∨p.inter.length=2
 ·unfold i6 at h
  rw [if_pos hc] at h
  have H:=ab h
  clear h
  refine eN func260 rfl ntmps260 fun hO=>?_
  have HO:=ab hO
  clear hO
  unfold aQ dL dU
  cases hb:p.bad
  ·have h2:((p.inter.length:Int)==2)=true:=by
    rcases hc with hc|hc
    ·rw [hb] at hc;cases hc
    ·rw [hc];rfl
   simp only [aQ,dL,dU,hb] at hsp
   clear hc hi
   refine ε1 hsp ?_
   apply wg (L:=[])
   ·exact ss
   ·exact ss
   ·(simp only [go_sem, *,results260];try rfl)
   ·simp
   ·exact il (q:=p7 p.st) HO.out
   ·exact H.out
  ·simp only [aQ,dL,dU,hb] at hsp
   clear hc hi
   refine ε1 hsp ?_
   apply wg (L:=[])
   ·exact ss
   ·exact ss
   ·(simp only [go_sem, *,results260];try rfl)
   ·simp
   ·exact il (q:=p7 p.st) HO.out
   ·exact H.out
 ·unfold i6 at h
  rw [if_neg hc] at h
  rw [not_or] at hc
  have hb:p.bad=false:=by simpa using hc.1
  have h2:((p.inter.length:Int)==2)=false:=ν
  have h3:p.inter.length+1≤9223372036854775807:=ω
  have H:=ab h
  clear h hc hi hsp
  refine eN func260 rfl ntmps260 fun hO=>?_
  have HO:=ab hO
  clear hO
  unfold aQ dL dU
  rw [hb]
  repeat' first|refine st ?_|(refine br ?_ ?_<;>intro hb)|refine sd ?_|refine sx ?_|apply aw|(apply aF;(· decide +kernel))|refine bd ?_ ?_|fail
  (apply bS HO.out H.out;(· simp);(· (simp only [go_sem, *];try rfl));(· (simp only [go_sem, *];try rfl));(· (simp only [go_sem, *,results260];try rfl)))
theorem El(p:Ps)(b:Nat):(ia p b).2.length≤1:=by
 unfold ia
 split
 ·exact uN _ _
 ·simp
theorem Dk(w0:World)(X:List aH)(p:Ps)(l:List Ev)(b:Nat)(hl:l.length≤1000000)(hs:p.st≤14)(R:Rt)(h:R (.ret (.tup [])) (aQ X (ia p b).1 (l++(ia p b).2))):ao prog w0 262 [.own X.length 0,.int .u8 b] (aQ X p l) R:=by
 have hd:=uk w0 X p l (nX p b) hl
 unfold ia at h
 by_cases h5:p.st≤5
 ·rw [if_pos h5] at h
  have d5:decide ((p.st:Int)≤5)=true:=κ
  have hav:(nX p b).av=.agg [.int .i64 4,.int .i64 0,.int .u8 p.pv,.int .u8 b,.sval false (p.pars.map ct),.str p.inter,.str []]:=rfl
  rw [hav] at hd
  have H:=ab h
  clear h h5 hl
  refine eN func262 rfl ntmps262 fun hO=>?_
  have HO:=ab hO
  clear hO
  unfold aQ dL dU
  repeat' ((fail_if_success (apply dk 9 rfl));first|refine st ?_|(refine br ?_ ?_<;>intro hb)|fail)
  refine rP 4 [0,1,4] rfl HO.out χ ss ss ss ?_
  simp only [aQ,dL,dU] at hd
  refine ε1 hd ?_
  (apply oA HO.out H.out;(· simp);(· (simp only [go_sem, *];try rfl));(· (simp only [go_sem, *];try rfl));(· (simp only [go_sem, *,results262];try rfl)))
 ·rw [if_neg h5] at h
  have d5:decide ((p.st:Int)≤5)=false:=κ
  rw [aG] at h
  clear h5 hl hd
  cases hb:p.bad
  all_goals
   rw [hb] at h
   have H:=ab h
   clear h
   refine eN func262 rfl ntmps262 fun hO=>?_
   have HO:=ab hO
   clear hO
   unfold aQ dL dU
   rw [hb]
   repeat' ((fail_if_success (apply dk 9 rfl));first|refine st ?_|(refine br ?_ ?_<;>intro hb)|fail)
   refine rP 4 [0,1,4] rfl (by first|exact il (q:={ p with bad:=false }) (k:=l) HO.out|exact il (q:={ p with bad:=true }) (k:=l) HO.out) χ ss ss ss ?_
   refine ε0 ?_
   (apply bS HO.out H.out;(· simp);(· (simp only [go_sem, *];try rfl));(· (simp only [go_sem, *];try rfl));(· (simp only [go_sem, *,results262];try rfl)))
theorem Ko(c:Nat)(hc:c<256)(R:Rt)(h:R (.ret (gH (iZ [] c))) S) :
  ao prog w0 299 [.sval false [],.int .u8 c] S R:=by
 have hck:=fun S'=>su w0 S' [] ⟨δ,χ⟩
 have hck0:mQ []=0:=δ
 rw [hck0] at hck
 simp only [aj] at hck
 rw [ip (pre:=[]) (q:=[]) (n:=-1) rfl] at h
 have hch:=fun S' v=>D3 w0 S' S.length none [] [-1] v δ
 simp only [gu,al,aj,ct,ea] at hch
 have hci:=fun S' v=>xB w0 S' [] (-1) v δ
 simp only [gu,al,aj,ct,ea] at hci
 simp only [gu,aI] at h
 by_cases c1:c=59
 ·subst c1
  have H:=ab h
  clear h hch hci
  refine eN func299 rfl ntmps299 fun hO=>?_
  repeat' ((fail_if_success (apply dk 21 rfl));first|refine st ?_|(refine ca ?_;apply hck)|(refine br ?_ ?_<;>intro hb)|fail)
  refine CK S.length [S.length+1,S.length+2] ss ss ss ss ?_
  simp only [go_sem, *]
  repeat' ((fail_if_success (apply dk 44 rfl));first|refine st ?_|(refine ca ?_;apply hck)|(refine br ?_ ?_<;>intro hb)|fail)
  refine mD (t:=43) (a:=S.length+3) rfl ss ss ?_
  refine ε1 hck ?_
  refine fR results299 ?_
  exact H.out
 rw [if_neg c1] at h
 have f1:((c:Int)==59)=false:=ν
 by_cases c2:c=58
 ·subst c2
  have hch2:=fun S'=>hch S' [-1,-1]
  simp only [al,aj,ea] at hch2
  have H:=ab h
  clear h hch hci
  refine eN func299 rfl ntmps299 fun hO=>?_
  repeat' ((fail_if_success (apply dk 21 rfl));first|refine st ?_|(refine ca ?_;apply hck)|(refine br ?_ ?_<;>intro hb)|fail)
  refine CK S.length [S.length+1,S.length+2] ss ss ss ss ?_
  simp only [go_sem, *]
  repeat' ((fail_if_success (apply dk 64 rfl));first|refine st ?_|(refine ca ?_;apply hck)|(refine br ?_ ?_<;>intro hb)|fail)
  refine mD (t:=63) (a:=S.length+4) rfl ss ss ?_
  refine ε01 hch2 ?_
  refine fR results299 ?_
  exact H.out
 rw [if_neg c2] at h
 have f2:((c:Int)==58)=false:=ν
 by_cases c3:48≤c∧c≤57
 ·rw [if_pos c3] at h
  have g1:decide ((48:Int)≤(c:Int))=true:=κ
  have g2:decide ((c:Int)≤57)=true:=κ
  have hwc:a6.wrap ((c:Int) - 48)=(c:Int) - 48:=cR _ ω
  have hwd:ae.wrap ((c:Int) - 48)=(c:Int) - 48:=ai _ ω
  have hwa:ae.wrap (0+((c:Int) - 48))=(c:Int) - 48:=by rw [Int.zero_add];exact hwd
  have hw0:ae.wrap ((if (-1:Int)>0 then -1 else 0) * 10)=0:=δ
  have hv:((9999:Int)<(c:Int) - 48)=False:=eq_false ω
  rw [show min (max 0 (-1:Int) * 10+((c:Int) - 48)) 9999=(c:Int) - 48 by omega] at h
  obtain⟨v,hvv⟩:∃ v:Int,(c:Int) - 48=v:=⟨_,rfl⟩
  rw [hvv] at hwc hwd hwa hv h
  have hch2:=fun S'=>hch S' [v]
  simp only [al,aj,ea] at hch2
  have hci2:=fun S'=>hci S' v
  have H:=ab h
  clear h c1 c2 c3 hch hci
  refine eN func299 rfl ntmps299 fun hO=>?_
  repeat' ((fail_if_success (apply dk 21 rfl));first|refine st ?_|(refine ca ?_;apply hck)|(refine br ?_ ?_<;>intro hb)|fail)
  refine CK S.length [S.length+1,S.length+2] ss ss ss ss ?_
  simp only [go_sem, *]
  refine ε11 hci2 hch2 ?_
  refine fR results299 ?_
  exact H.out
 ·rw [if_neg c3] at h
  have H:=ab h
  clear h hch hci
  by_cases c4:48≤c
  ·have g1:decide ((48:Int)≤(c:Int))=true:=κ
   have g2:decide ((c:Int)≤57)=false:=κ
   clear c1 c2 c3 c4
   exact γR1 hck func299 ntmps299 results299 H.out
  ·have g1:decide ((48:Int)≤(c:Int))=false:=κ
   clear c1 c2 c3 c4
   exact γR1 hck func299 ntmps299 results299 H.out
theorem Mj(l:List (List Int))(c:Nat)(hc:c<256)(hok:db l=true)(R:Rt)(h:R (.ret (gH (iZ l c))) S):ao prog w0 299 [.sval false (l.map ct),.int .u8 c] S R:=by
 by_cases hl:l=[]
 ·subst hl;exact Ko w0 S c hc R h
 ·obtain⟨pre,q,n,e,h1,h2,h3,_,_⟩:=mU hok
  rw [nC hl] at e
  subst e
  exact Kn w0 S pre q n c hc hok h1 h2 h3 R h
theorem Ds(w0:World)(X:List aH)(p:Ps)(l:List Ev)(b:Nat)(hb8:b<256)(hok:db p.pars=true)(R:Rt)(h:R (.ret (.tup [])) (aQ X (rm p b) l)):ao prog w0 261 [.own X.length 0,.int .u8 b] (aQ X p l) R:=by
 have hsp:=sb w0 X p l
 have hst:=fun S'=>Mj w0 S' p.pars b hb8 hok
 unfold gH at hst
 unfold rm at h
 generalize iZ p.pars b=q at h hst
 obtain⟨q1,q2⟩:=q
 simp only at h hst
 clear hok hb8
 by_cases hq:q2=0
 ·subst hq
  cases hb:p.bad
  ·have h:R (.ret (.tup [])) (aQ X { p with pars:=q1 } l):=by simpa [hb] using h
   have H:=ab h
   clear h hsp
   refine eN func261 rfl ntmps261 fun hO=>?_
   have HO:=ab hO
   clear hO
   unfold aQ dL dU
   rw [hb]
   refine ε1 hst ?_
   (apply bS HO.out H.out;(· simp);(· (simp only [go_sem, *];try rfl));(· (simp only [go_sem, *];try rfl));(· (simp only [go_sem, *,results261];try rfl)))
  ·have h:R (.ret (.tup [])) (aQ X (p7 p.st) l):=by simpa [hb] using h
   have H:=ab h
   clear h
   refine eN func261 rfl ntmps261 fun hO=>?_
   have HO:=ab hO
   clear hO
   unfold aQ dL dU
   simp only [aQ,dL,dU,hb] at hsp ⊢
   refine ε2 hst hsp ?_
   (apply oA HO.out H.out;(· simp);(· (simp only [go_sem, *];try rfl));(· (simp only [go_sem, *];try rfl));(· (simp only [go_sem, *,results261];try rfl)))
 ·have h:R (.ret (.tup [])) (aQ X (p7 p.st) l):=by simpa [hq] using h
  have hq2:(q2==0)=false:=by rw [beq_eq_false_iff_ne];exact hq
  have hq3:(q2 != 0)=true:=by simpa using hq
  have hq4:decide (q2=0)=false:=by simpa using hq
  have H:=ab h
  clear h hq
  refine eN func261 rfl ntmps261 fun hO=>?_
  have HO:=ab hO
  clear hO
  unfold aQ dL dU
  simp only [aQ,dL,dU] at hsp
  refine ε2 hst hsp ?_
  (apply oA HO.out H.out;(· simp);(· (simp only [go_sem, *];try rfl));(· (simp only [go_sem, *];try rfl));(· (simp only [go_sem, *,results261];try rfl)))
theorem Gb(w0:World)(X:List aH)(p:Ps)(l:List Ev)(b:Nat)(hl:l.length≤1000000)(hb:b<256)(R:Rt)(h:R (.ret (.tup [])) (aQ X p (l++[lS b]))):ao prog w0 216 [.own X.length 0,.int .u8 b] (aQ X p l) R:=by
 have k0:=Ar w0 X p l (lS b) hl
 rw [show (lS b).av=.agg [.int .i64 1,.int .i64 b,.int .u8 0,.int .u8 0,.sval false [],.str [],.str []] from rfl] at k0
 simp only [aQ,dL,dU] at k0
 have hw:ae.wrap (b:Int)=(b:Int):=ai _ ω
 have H:=ab h
 clear h hl hb
 refine eN func216 rfl ntmps216 fun hO=>?_
 have HO:=ab hO
 clear hO
 unfold aQ dL dU
 refine ε1 k0 ?_
 (apply bS HO.out H.out;(· simp);(· (simp only [go_sem, *];try rfl));(· (simp only [go_sem, *];try rfl));(· (simp only [go_sem, *,results216];try rfl)))
theorem Gh(w0:World)(X:List aH)(p:Ps)(l:List Ev)(b:Nat)(hl:l.length≤1000000)(hp:fj p)(hb:b<256)(R:Rt)(h:R (.ret (.tup [])) (aQ X (qp p b).1 (l++(qp p b).2))):ao prog w0 217 [.own X.length 0,.int .u8 b] (aQ X p l) R:=by
 unfold qp at h
 by_cases c91:b=91
 ·rw [if_pos c91] at h
  try simp only [aG] at h
  have e91:((b:Int)==91)=true:=κ
  have k0:=gJ w0 X p l 3
  simp only [aQ,dL,dU] at k0
  have H:=ab h
  clear h hl hp hb
  refine eN func217 rfl ntmps217 fun hO=>?_
  have HO:=ab hO
  clear hO
  unfold aQ dL dU
  refine ε1 k0 ?_
  (apply bS HO.out H.out;(· simp);(· (simp only [go_sem, *];try rfl));(· (simp only [go_sem, *];try rfl));(· (simp only [go_sem, *,results217];try rfl)))
 rw [if_neg c91] at h
 by_cases c93:b=93
 ·rw [if_pos c93] at h
  try simp only [aG] at h
  have e91:((b:Int)==91)=false:=ν
  have e93:((b:Int)==93)=true:=κ
  have k0:=gJ w0 X p l 6
  simp only [aQ,dL,dU] at k0
  have H:=ab h
  clear h hl hp hb
  refine eN func217 rfl ntmps217 fun hO=>?_
  have HO:=ab hO
  clear hO
  unfold aQ dL dU
  refine ε1 k0 ?_
  (apply bS HO.out H.out;(· simp);(· (simp only [go_sem, *];try rfl));(· (simp only [go_sem, *];try rfl));(· (simp only [go_sem, *,results217];try rfl)))
 rw [if_neg c93] at h
 by_cases c80:b=80
 ·rw [if_pos c80] at h
  try simp only [aG] at h
  have e91:((b:Int)==91)=false:=ν
  have e93:((b:Int)==93)=false:=ν
  have e80:((b:Int)==80)=true:=κ
  have k0:=gJ w0 X p l 8
  simp only [aQ,dL,dU] at k0
  have H:=ab h
  clear h hl hp hb
  refine eN func217 rfl ntmps217 fun hO=>?_
  have HO:=ab hO
  clear hO
  unfold aQ dL dU
  refine ε1 k0 ?_
  (apply bS HO.out H.out;(· simp);(· (simp only [go_sem, *];try rfl));(· (simp only [go_sem, *];try rfl));(· (simp only [go_sem, *,results217];try rfl)))
 rw [if_neg c80] at h
 by_cases c88:b=88∨b=94∨b=95
 ·rw [if_pos c88] at h
  rcases c88 with rfl|rfl|rfl
  ·
   try simp only [aG] at h
   have k0:=gJ w0 X p l 13
   simp only [aQ,dL,dU] at k0
   have H:=ab h
   clear h hl hp hb
   refine eN func217 rfl ntmps217 fun hO=>?_
   have HO:=ab hO
   clear hO
   unfold aQ dL dU
   refine ε1 k0 ?_
   (apply bS HO.out H.out;(· simp);(· (simp only [go_sem, *];try rfl));(· (simp only [go_sem, *];try rfl));(· (simp only [go_sem, *,results217];try rfl)))
  ·
   try simp only [aG] at h
   have k0:=gJ w0 X p l 13
   simp only [aQ,dL,dU] at k0
   have H:=ab h
   clear h hl hp hb
   refine eN func217 rfl ntmps217 fun hO=>?_
   have HO:=ab hO
   clear hO
   unfold aQ dL dU
   refine ε1 k0 ?_
   (apply bS HO.out H.out;(· simp);(· (simp only [go_sem, *];try rfl));(· (simp only [go_sem, *];try rfl));(· (simp only [go_sem, *,results217];try rfl)))
  ·
   try simp only [aG] at h
   have k0:=gJ w0 X p l 13
   simp only [aQ,dL,dU] at k0
   have H:=ab h
   clear h hl hp hb
   refine eN func217 rfl ntmps217 fun hO=>?_
   have HO:=ab hO
   clear hO
   unfold aQ dL dU
   refine ε1 k0 ?_
   (apply bS HO.out H.out;(· simp);(· (simp only [go_sem, *];try rfl));(· (simp only [go_sem, *];try rfl));(· (simp only [go_sem, *,results217];try rfl)))
 rw [if_neg c88] at h
 rw [not_or,not_or] at c88
 by_cases c48:b<48
 ·rw [if_pos c48] at h
  try simp only [aG] at h
  have e91:((b:Int)==91)=false:=ν
  have e93:((b:Int)==93)=false:=ν
  have e80:((b:Int)==80)=false:=ν
  have e88:((b:Int)==88)=false:=ν
  have e94:((b:Int)==94)=false:=ν
  have e95:((b:Int)==95)=false:=ν
  have d48:decide ((b:Int)<48)=true:=κ
  have k0:=gJ w0 X p l 2
  have k1:=xi w0 X (bp 2) l b (bf _)
  simp only [aQ,dL,dU] at k0 k1
  have H:=ab h
  clear h hl hp hb
  refine eN func217 rfl ntmps217 fun hO=>?_
  have HO:=ab hO
  clear hO
  unfold aQ dL dU
  refine ε2 k0 k1 ?_
  (apply oA HO.out H.out;(· simp);(· (simp only [go_sem, *];try rfl));(· (simp only [go_sem, *];try rfl));(· (simp only [go_sem, *,results217];try rfl)))
 rw [if_neg c48] at h
 have k0:=uk w0 X p l (mZ [] b) hl
 rw [show (mZ [] b).av=.agg [.int .i64 3,.int .i64 0,.int .u8 0,.int .u8 b,.sval false [],.str [],.str []] from rfl] at k0
 simp only [aQ,dL,dU] at k0
 try simp only [aG] at h
 have e91:((b:Int)==91)=false:=ν
 have e93:((b:Int)==93)=false:=ν
 have e80:((b:Int)==80)=false:=ν
 have e88:((b:Int)==88)=false:=ν
 have e94:((b:Int)==94)=false:=ν
 have e95:((b:Int)==95)=false:=ν
 have d48:decide ((b:Int)<48)=false:=κ
 have H:=ab h
 clear h hl hp hb
 refine eN func217 rfl ntmps217 fun hO=>?_
 have HO:=ab hO
 clear hO
 unfold aQ dL dU
 refine ε1 k0 ?_
 (apply bS HO.out H.out;(· simp);(· (simp only [go_sem, *];try rfl));(· (simp only [go_sem, *];try rfl));(· (simp only [go_sem, *,results217];try rfl)))
theorem JX(w0:World)(X:List aH)(p:Ps)(l:List Ev)(b:Nat)(hl:l.length≤1000000)(hp:fj p)(hb:b<256)(R:Rt)(h:R (.ret (.tup [])) (aQ X (kY p b).1 (l++(kY p b).2))):ao prog w0 218 [.own X.length 0,.int .u8 b] (aQ X p l) R:=by
 unfold kY at h
 have hi:=hp.inter
 by_cases c48:b<48
 ·rw [if_pos c48] at h
  try simp only [aG] at h
  have d48:decide ((b:Int)<48)=true:=κ
  have k0:=xi w0 X p l b hi
  simp only [aQ,dL,dU] at k0
  have H:=ab h
  clear h hl hp hb
  refine eN func218 rfl ntmps218 fun hO=>?_
  have HO:=ab hO
  clear hO
  unfold aQ dL dU
  refine ε1 k0 ?_
  (apply oA HO.out H.out;(· simp);(· (simp only [go_sem, *];try rfl));(· (simp only [go_sem, *];try rfl));(· (simp only [go_sem, *,results218];try rfl)))
 rw [if_neg c48] at h
 have k0:=uk w0 X p l (mZ p.inter b) hl
 rw [show (mZ p.inter b).av=.agg [.int .i64 3,.int .i64 0,.int .u8 0,.int .u8 b,.sval false [],.str p.inter,.str []] from rfl] at k0
 simp only [aQ,dL,dU] at k0
 try simp only [aG] at h
 have d48:decide ((b:Int)<48)=false:=κ
 have H:=ab h
 clear h hl hp hb
 refine eN func218 rfl ntmps218 fun hO=>?_
 have HO:=ab hO
 clear hO
 unfold aQ dL dU
 refine ε1 k0 ?_
 (apply bS HO.out H.out;(· simp);(· (simp only [go_sem, *];try rfl));(· (simp only [go_sem, *];try rfl));(· (simp only [go_sem, *,results218];try rfl)))
theorem Dr(w0:World)(X:List aH)(p:Ps)(l:List Ev)(b:Nat)(hl:l.length≤1000000)(hp:fj p)(hb:b<256)(R:Rt)(h:R (.ret (.tup [])) (aQ X (g7 p b).1 (l++(g7 p b).2))):ao prog w0 219 [.own X.length 0,.int .u8 b] (aQ X p l) R:=by
 unfold g7 at h
 have hs:=hp.st
 by_cases c48:b<48
 ·rw [if_pos c48] at h
  try simp only [aG] at h
  have d48:decide ((b:Int)<48)=true:=κ
  have hw:ae.wrap ((p.st:Int)+2)=((p.st+2:Nat):Int):=by rw [ai _ ω];omega
  have k0:=gJ w0 X p l (p.st+2)
  have k1:=xi w0 X (bp (p.st+2)) l b (bf _)
  simp only [aQ,dL,dU] at k0 k1
  have H:=ab h
  clear h hl hp hb
  refine eN func219 rfl ntmps219 fun hO=>?_
  have HO:=ab hO
  clear hO
  unfold aQ dL dU
  refine ε2 k0 k1 ?_
  (apply bS HO.out H.out;(· simp);(· (simp only [go_sem, *];try rfl));(· (simp only [go_sem, *];try rfl));(· (simp only [go_sem, *,results219];try rfl)))
 rw [if_neg c48] at h
 by_cases c60:b<60
 ·rw [if_pos c60] at h
  try simp only [aG] at h
  have d48:decide ((b:Int)<48)=false:=κ
  have d60:decide ((b:Int)<60)=true:=κ
  have hw:ae.wrap ((p.st:Int)+1)=((p.st+1:Nat):Int):=by rw [ai _ ω];omega
  have k0:=gJ w0 X p l (p.st+1)
  have k1:=Ds w0 X (bp (p.st+1)) l b hb rfl
  simp only [aQ,dL,dU] at k0 k1
  have H:=ab h
  clear h hl hp hb
  refine eN func219 rfl ntmps219 fun hO=>?_
  have HO:=ab hO
  clear hO
  unfold aQ dL dU
  refine ε2 k0 k1 ?_
  (apply bS HO.out H.out;(· simp);(· (simp only [go_sem, *];try rfl));(· (simp only [go_sem, *];try rfl));(· (simp only [go_sem, *,results219];try rfl)))
 rw [if_neg c60] at h
 by_cases c64:b<64
 ·rw [if_pos c64] at h
  try simp only [aG] at h
  have d48:decide ((b:Int)<48)=false:=κ
  have d60:decide ((b:Int)<60)=false:=κ
  have d64:decide ((b:Int)<64)=true:=κ
  have hw:ae.wrap ((p.st:Int)+1)=((p.st+1:Nat):Int):=by rw [ai _ ω];omega
  have k0:=gJ w0 X p l (p.st+1)
  simp only [aQ,dL,dU] at k0
  have H:=ab h
  clear h hl hp hb
  refine eN func219 rfl ntmps219 fun hO=>?_
  have HO:=ab hO
  clear hO
  unfold aQ dL dU
  refine ε1 k0 ?_
  (apply bS HO.out H.out;(· simp);(· (simp only [go_sem, *];try rfl));(· (simp only [go_sem, *];try rfl));(· (simp only [go_sem, *,results219];try rfl)))
 rw [if_neg c64] at h
 try simp only [aG] at h
 have d48:decide ((b:Int)<48)=false:=κ
 have d60:decide ((b:Int)<60)=false:=κ
 have d64:decide ((b:Int)<64)=false:=κ
 have k0:=Dk w0 X p l b hl hs
 simp only [aQ,dL,dU] at k0
 have H:=ab h
 clear h hl hp hb
 refine eN func219 rfl ntmps219 fun hO=>?_
 have HO:=ab hO
 clear hO
 unfold aQ dL dU
 refine ε1 k0 ?_
 (apply bS HO.out H.out;(· simp);(· (simp only [go_sem, *];try rfl));(· (simp only [go_sem, *];try rfl));(· (simp only [go_sem, *,results219];try rfl)))
theorem Au(w0:World)(X:List aH)(p:Ps)(l:List Ev)(b:Nat)(hl:l.length≤1000000)(hp:fj p)(hb:b<256)(R:Rt)(h:R (.ret (.tup [])) (aQ X (fU p b).1 (l++(fU p b).2))):ao prog w0 220 [.own X.length 0,.int .u8 b] (aQ X p l) R:=by
 unfold fU at h
 have hs:=hp.st
 have hi:=hp.inter
 by_cases c48:b<48
 ·rw [if_pos c48] at h
  try simp only [aG] at h
  have d48:decide ((b:Int)<48)=true:=κ
  have hw:ae.wrap ((p.st:Int)+1)=((p.st+1:Nat):Int):=by rw [ai _ ω];omega
  have k0:=xi w0 X { p with st:=p.st+1 } l b hi
  simp only [aQ,dL,dU] at k0
  have H:=ab h
  clear h hl hp hb
  refine eN func220 rfl ntmps220 fun hO=>?_
  have HO:=ab hO
  clear hO
  unfold aQ dL dU
  refine ε1 k0 ?_
  (apply bS HO.out H.out;(· simp);(· (simp only [go_sem, *];try rfl));(· (simp only [go_sem, *];try rfl));(· (simp only [go_sem, *,results220];try rfl)))
 rw [if_neg c48] at h
 by_cases c60:b<60
 ·rw [if_pos c60] at h
  try simp only [aG] at h
  have d48:decide ((b:Int)<48)=false:=κ
  have d60:decide ((b:Int)<60)=true:=κ
  have k0:=Ds w0 X p l b hb hp.pars
  simp only [aQ,dL,dU] at k0
  have H:=ab h
  clear h hl hp hb
  refine eN func220 rfl ntmps220 fun hO=>?_
  have HO:=ab hO
  clear hO
  unfold aQ dL dU
  refine ε1 k0 ?_
  (apply bS HO.out H.out;(· simp);(· (simp only [go_sem, *];try rfl));(· (simp only [go_sem, *];try rfl));(· (simp only [go_sem, *,results220];try rfl)))
 rw [if_neg c60] at h
 by_cases c64:b<64
 ·rw [if_pos c64] at h
  try simp only [aG] at h
  have d48:decide ((b:Int)<48)=false:=κ
  have d60:decide ((b:Int)<60)=false:=κ
  have d64:decide ((b:Int)<64)=true:=κ
  have k0:=sb w0 X p l
  simp only [aQ,dL,dU] at k0
  have H:=ab h
  clear h hl hp hb
  refine eN func220 rfl ntmps220 fun hO=>?_
  have HO:=ab hO
  clear hO
  unfold aQ dL dU
  refine ε1 k0 ?_
  (apply bS HO.out H.out;(· simp);(· (simp only [go_sem, *];try rfl));(· (simp only [go_sem, *];try rfl));(· (simp only [go_sem, *,results220];try rfl)))
 rw [if_neg c64] at h
 try simp only [aG] at h
 have d48:decide ((b:Int)<48)=false:=κ
 have d60:decide ((b:Int)<60)=false:=κ
 have d64:decide ((b:Int)<64)=false:=κ
 have k0:=Dk w0 X p l b hl hs
 simp only [aQ,dL,dU] at k0
 have H:=ab h
 clear h hl hp hb
 refine eN func220 rfl ntmps220 fun hO=>?_
 have HO:=ab hO
 clear hO
 unfold aQ dL dU
 refine ε1 k0 ?_
 (apply bS HO.out H.out;(· simp);(· (simp only [go_sem, *];try rfl));(· (simp only [go_sem, *];try rfl));(· (simp only [go_sem, *,results220];try rfl)))
theorem Av(w0:World)(X:List aH)(p:Ps)(l:List Ev)(b:Nat)(hl:l.length≤1000000)(hp:fj p)(hb:b<256)(R:Rt)(h:R (.ret (.tup [])) (aQ X (fW p b).1 (l++(fW p b).2))):ao prog w0 221 [.own X.length 0,.int .u8 b] (aQ X p l) R:=by
 unfold fW at h
 have hs:=hp.st
 have hi:=hp.inter
 by_cases c48:b<48
 ·rw [if_pos c48] at h
  try simp only [aG] at h
  have d48:decide ((b:Int)<48)=true:=κ
  have k0:=xi w0 X p l b hi
  simp only [aQ,dL,dU] at k0
  have H:=ab h
  clear h hl hp hb
  refine eN func221 rfl ntmps221 fun hO=>?_
  have HO:=ab hO
  clear hO
  unfold aQ dL dU
  refine ε1 k0 ?_
  (apply bS HO.out H.out;(· simp);(· (simp only [go_sem, *];try rfl));(· (simp only [go_sem, *];try rfl));(· (simp only [go_sem, *,results221];try rfl)))
 rw [if_neg c48] at h
 by_cases c64:b<64
 ·rw [if_pos c64] at h
  try simp only [aG] at h
  have d48:decide ((b:Int)<48)=false:=κ
  have d64:decide ((b:Int)<64)=true:=κ
  have k0:=sb w0 X p l
  simp only [aQ,dL,dU] at k0
  have H:=ab h
  clear h hl hp hb
  refine eN func221 rfl ntmps221 fun hO=>?_
  have HO:=ab hO
  clear hO
  unfold aQ dL dU
  refine ε1 k0 ?_
  (apply bS HO.out H.out;(· simp);(· (simp only [go_sem, *];try rfl));(· (simp only [go_sem, *];try rfl));(· (simp only [go_sem, *,results221];try rfl)))
 rw [if_neg c64] at h
 try simp only [aG] at h
 have d48:decide ((b:Int)<48)=false:=κ
 have d64:decide ((b:Int)<64)=false:=κ
 have k0:=Dk w0 X p l b hl hs
 simp only [aQ,dL,dU] at k0
 have H:=ab h
 clear h hl hp hb
 refine eN func221 rfl ntmps221 fun hO=>?_
 have HO:=ab hO
 clear hO
 unfold aQ dL dU
 refine ε1 k0 ?_
 (apply bS HO.out H.out;(· simp);(· (simp only [go_sem, *];try rfl));(· (simp only [go_sem, *];try rfl));(· (simp only [go_sem, *,results221];try rfl)))
def rQ:AV:=.agg [.fn (.func 216) [] [],.fn (.func 217) [] [],.fn (.func 218) [] [],.fn (.func 219) [] [],.fn (.func 220) [] [],.fn (.func 221) [] [],.fnil,.fnil,.fn (.func 219) [] [],.fn (.func 220) [] [],.fn (.func 221) [] [],.fnil,.fnil,.fnil,.fnil]
theorem oZ(R:Rt)(h:R (.ret rQ) S):ao prog w0 171 [] S R:=by
 unfold rQ at h
 have H:=ab h
 clear h
 exact γR0 func171 ntmps171 results171 H.out
theorem FM(w0:World)(X:List aH)(p:Ps)(l:List Ev)(b:Nat)(hl:l.length≤1000000)(hp:fj p)(hb:b<256)(R:Rt)(h:R (.ret (.tup [])) (aQ X (eO p b).1 (l++(eO p b).2))):ao prog w0 169 [.own X.length 0,.int .u8 b] (aQ X p l) R:=by
 have hs:=hp.st
 have ht:=hp.text
 unfold eO at h
 by_cases c1:b=7∧p.st=6
 ·rw [if_pos c1] at h
  have e7:((b:Int)==7)=true:=κ
  have e6:((p.st:Int)==6)=true:=κ
  have k0:=uk w0 X p l (mh p) hl
  rw [show (mh p).av=.agg [.int .i64 5,.int .i64 0,.int .u8 0,.int .u8 0,.sval false [],.str [],.str p.text] from rfl] at k0
  simp only [aQ,dL,dU] at k0
  have H:=ab h
  clear h hl hp hb c1
  refine eN func169 rfl ntmps169 fun hO=>?_
  have HO:=ab hO
  clear hO
  unfold aQ dL dU
  refine ε1 k0 ?_
  (apply bS HO.out H.out;(· simp);(· (simp only [go_sem, *];try rfl));(· (simp only [go_sem, *];try rfl));(· (simp only [go_sem, *,results169];try rfl)))
 rw [if_neg c1] at h
 have f7:((b:Int)==7)=false∨((b:Int)==7)=true∧((p.st:Int)==6)=false:=by
  simp only [beq_eq_false_iff_ne,beq_iff_eq]
  omega
 have e67:∃ u:Bool,((p.st:Int)==6)=u:=⟨_,rfl⟩
 by_cases c2:b<32∨b=127∨p.st=13∨p.bad=true
 ·rw [if_pos c2] at h
  simp only [aG] at h
  have c3:(decide ((b:Int)<32)=true)∨(decide ((b:Int)<32)=false∧((b:Int)==127)=true)∨(decide ((b:Int)<32)=false∧((b:Int)==127)=false∧((p.st:Int)==13)=true)∨(decide ((b:Int)<32)=false∧((b:Int)==127)=false∧((p.st:Int)==13)=false∧p.bad=true):=by
   simp only [beq_eq_false_iff_ne,beq_iff_eq,decide_eq_true_eq,decide_eq_false_iff_not]
   by_cases g1:b<32
   ·left;omega
   by_cases g2:b=127
   ·right;left;omega
   by_cases g3:p.st=13
   ·right;right;left;omega
   ·right;right;right
    have g4:p.bad=true:=by simpa [g1,g2,g3] using c2
    exact⟨ω,ω,ω,g4⟩
  have H:=ab h
  clear h hl hp hb c1 c2 hs ht
  clear e67
  obtain⟨s0,utf,pv,fn,pars,inter,text,bad⟩:=p
  simp only at c3 f7
  rcases c3 with d1|⟨d1,d2⟩|⟨d1,d2,d3⟩|⟨d1,d2,d3,rfl⟩<;>rcases f7 with f7|⟨f7,f6⟩
  all_goals
   refine eN func169 rfl ntmps169 fun hO=>?_
   have HO:=ab hO
   clear hO
   simp only [aQ,dL,dU]
   refine ε0 ?_
   (apply bS HO.out H.out;(· simp);(· (simp only [go_sem, *];try rfl));(· (simp only [go_sem, *];try rfl));(· (simp only [go_sem, *,results169];try rfl)))
 rw [if_neg c2] at h
 rw [not_or,not_or,not_or] at c2
 obtain⟨g1,g2,g3,g4⟩:=c2
 have d1:decide ((b:Int)<32)=false:=κ
 have d2:((b:Int)==127)=false:=ν
 have d3:((p.st:Int)==13)=false:=ν
 have d4:p.bad=false:=by simpa using g4
 by_cases c5:p.text.length=512
 ·rw [if_pos c5] at h
  simp only [aG] at h
  clear e67
  have d5:((p.text.length:Int)==512)=true:=κ
  have k0:=sb w0 X p l
  have H:=ab h
  simp only [aQ,dL,dU] at k0
  clear h hl hp hb c1 g1 g2 g3 g4 c5 hs ht
  rcases f7 with f7|⟨f7,f6⟩
  all_goals
   refine eN func169 rfl ntmps169 fun hO=>?_
   have HO:=ab hO
   clear hO
   unfold aQ dL dU
   rw [d4] at k0 ⊢
   refine ε1 k0 ?_
   (apply bS HO.out H.out;(· simp);(· (simp only [go_sem, *];try rfl));(· (simp only [go_sem, *];try rfl));(· (simp only [go_sem, *,results169];try rfl)))
 ·rw [if_neg c5] at h
  simp only [aG] at h
  have d5:((p.text.length:Int)==512)=false:=ν
  have d6:p.text.length+1≤9223372036854775807:=ω
  have H:=ab h
  clear h hl hp hb c1 g1 g2 g3 g4 c5 hs ht
  rcases f7 with f7|⟨f7,f6⟩
  all_goals
   refine eN func169 rfl ntmps169 fun hO=>?_
   have HO:=ab hO
   clear hO
   unfold aQ dL dU
   rw [d4]
   repeat' first|refine st ?_|(refine br ?_ ?_<;>intro hb)|refine sd ?_|refine sx ?_|apply aw|(apply aF;(· decide +kernel))|refine bd ?_ ?_|fail
   (apply bS HO.out H.out;(· simp);(· (simp only [go_sem, *];try rfl));(· (simp only [go_sem, *];try rfl));(· (simp only [go_sem, *,results169];try rfl)))
def dQ(p:Ps)(b:Nat):Prop:=¬ (p.st=0∧(p.utf≠[]∨128≤b))
theorem iC{p:Ps}{b:Nat}(h:dQ p b):(((p.st:Int)==0)=true∧decide ((0:Int)<(p.utf.length:Int))=false∧decide ((128:Int)≤(b:Int))=false∧((p.st:Int)==6)=false∧((p.st:Int)==11)=false∧((p.st:Int)==13)=false)∨((p.st:Int)==0)=false:=by
 unfold dQ at h
 simp only [beq_iff_eq,beq_eq_false_iff_ne,decide_eq_false_iff_not]
 by_cases h0:p.st=0
 ·left
  have h1:¬ (p.utf≠[]∨128≤b):=fun h'=>h ⟨h0,h'⟩
  rw [not_or] at h1
  have h2:p.utf=[]:=Classical.not_not.1 h1.1
  have h3:p.utf.length=0:=by rw [h2];rfl
  omega
 ·right;omega
theorem kp(n:Nat):(dR n=true∧(((n:Int)==6)=true∨(((n:Int)==6)=false∧((n:Int)==11)=true)∨(((n:Int)==6)=false∧((n:Int)==11)=false∧((n:Int)==13)=true)))∨(dR n=false∧((n:Int)==6)=false∧((n:Int)==11)=false∧((n:Int)==13)=false):=by
 unfold dR
 simp only [beq_iff_eq,beq_eq_false_iff_ne,ef,cF]
 omega
theorem wh{n:Nat}(h:gS n=false):((n:Int)==7)=false∧((n:Int)==12)=false∧((n:Int)==14)=false:=by
 unfold gS at h
 simp only [beq_eq_false_iff_ne,cF] at h ⊢
 omega
theorem F3(w0:World)(X:List aH)(p:Ps)(l:List Ev)(b:Nat)(hl:l.length≤1000000)(hp:fj p)(hb:b<256)(hn:dQ p b)(hc:b=24∨b=26)(R:Rt)(h:R (.ret (.tup [])) (aQ X (bp 0) l)):ao prog w0 82 [.own X.length 0,.int .u8 b] (aQ X p l) R:=by
 have c1:=iC hn
 have c2:=kp p.st
 have c3:((b:Int)==24)=true∨((b:Int)==24)=false∧((b:Int)==26)=true:=by simp only [beq_iff_eq,beq_eq_false_iff_ne];omega
 have k0:=gJ w0 X p l 0
 simp only [aQ,dL,dU] at k0
 have H:=ab h
 clear h hl hp hb hn hc
 rcases c3 with c3|⟨c3,c4⟩<;>rcases c2 with⟨_,c2|⟨c5,c2⟩|⟨c5,c6,c2⟩⟩|⟨_,c5,c6,c7⟩<;>rcases c1 with⟨c8,c9,c10,c11,c12,c13⟩|c8
 all_goals first
  | (rw [c2] at c11;cases c11;done)
  | (rw [c2] at c12;cases c12;done)
  | (rw [c2] at c13;cases c13;done)
  | skip
 all_goals
  refine eN func82 rfl ntmps82 fun hO=>?_
  have HO:=ab hO
  clear hO
  unfold aQ dL dU
  refine ε1 k0 ?_
  (apply bS HO.out H.out;(· simp);(· (simp only [go_sem, *];try rfl));(· (simp only [go_sem, *];try rfl));(· (simp only [go_sem, *,results82];try rfl)))
theorem F2(w0:World)(X:List aH)(p:Ps)(l:List Ev)(b:Nat)(hl:l.length≤1000000)(hp:fj p)(hb:b<256)(hn:dQ p b)(hc:b=27)(ht:dR p.st=true)(R:Rt)(h:R (.ret (.tup [])) (aQ X { p with st:=p.st+1 } l)):ao prog w0 82 [.own X.length 0,.int .u8 b] (aQ X p l) R:=by
 have c1:((p.st:Int)==0)=false:=by rw [beq_eq_false_iff_ne];unfold dR at ht;simp only [ef,beq_iff_eq] at ht;omega
 have c2:=kp p.st
 have hs:=hp.st
 have hw:ae.wrap ((p.st:Int)+1)=((p.st+1:Nat):Int):=by rw [ai _ ω];omega
 subst hc
 have H:=ab h
 clear h hl hp hb hn hs
 rcases c2 with⟨_,c2|⟨c5,c2⟩|⟨c5,c6,c2⟩⟩|⟨c2,_⟩
 rotate_right
 ·rw [ht] at c2;cases c2
 all_goals
  refine eN func82 rfl ntmps82 fun hO=>?_
  have HO:=ab hO
  clear hO
  unfold aQ dL dU
  refine ε0 ?_
  (apply bS HO.out H.out;(· simp);(· (simp only [go_sem, *];try rfl));(· (simp only [go_sem, *];try rfl));(· (simp only [go_sem, *,results82];try rfl)))
theorem F1(w0:World)(X:List aH)(p:Ps)(l:List Ev)(b:Nat)(hl:l.length≤1000000)(hp:fj p)(hb:b<256)(hn:dQ p b)(hc:b=27)(ht:dR p.st=false)(R:Rt)(h:R (.ret (.tup [])) (aQ X (bp 1) l)):ao prog w0 82 [.own X.length 0,.int .u8 b] (aQ X p l) R:=by
 have c1:=iC hn
 have c2:=kp p.st
 have k0:=gJ w0 X p l 1
 simp only [aQ,dL,dU] at k0
 subst hc
 have H:=ab h
 clear h hl hp hb hn
 rcases c2 with⟨c2,_⟩|⟨_,c5,c6,c7⟩
 ·rw [ht] at c2;cases c2
 rcases c1 with⟨c8,c9,_⟩|c8
 all_goals
  refine eN func82 rfl ntmps82 fun hO=>?_
  have HO:=ab hO
  clear hO
  unfold aQ dL dU
  refine ε1 k0 ?_
  (apply bS HO.out H.out;(· simp);(· (simp only [go_sem, *];try rfl));(· (simp only [go_sem, *];try rfl));(· (simp only [go_sem, *,results82];try rfl)))
theorem F0(w0:World)(X:List aH)(p:Ps)(l:List Ev)(b:Nat)(hl:l.length≤1000000)(hp:fj p)(hb:b<256)(hn:dQ p b)(hc:b≠24∧b≠26∧b≠27)(ht:dR p.st=true)(R:Rt)(h:R (.ret (.tup [])) (aQ X (eO p b).1 (l++(eO p b).2))):ao prog w0 82 [.own X.length 0,.int .u8 b] (aQ X p l) R:=by
 have c1:((p.st:Int)==0)=false∧((p.st:Int)==7)=false∧((p.st:Int)==12)=false∧((p.st:Int)==14)=false:=by simp only [beq_eq_false_iff_ne];unfold dR at ht;simp only [ef,beq_iff_eq] at ht;omega
 obtain⟨q1,q2,q3,q4⟩:=c1
 have c2:=kp p.st
 have e24:((b:Int)==24)=false:=ν
 have e26:((b:Int)==26)=false:=ν
 have e27:((b:Int)==27)=false:=ν
 have k0:=FM w0 X p l b hl hp hb
 simp only [aQ,dL,dU] at k0
 have H:=ab h
 clear h hl hp hb hn hc
 rcases c2 with⟨_,c2|⟨c5,c2⟩|⟨c5,c6,c2⟩⟩|⟨c2,_⟩
 rotate_right
 ·rw [ht] at c2;cases c2
 all_goals
  refine eN func82 rfl ntmps82 fun hO=>?_
  have HO:=ab hO
  clear hO
  unfold aQ dL dU
  refine ε1 k0 ?_
  (apply bS HO.out H.out;(· simp);(· (simp only [go_sem, *];try rfl));(· (simp only [go_sem, *];try rfl));(· (simp only [go_sem, *,results82];try rfl)))
theorem FZ(w0:World)(X:List aH)(p:Ps)(l:List Ev)(b:Nat)(hl:l.length≤1000000)(hp:fj p)(hb:b<256)(hn:dQ p b)(hc:b≠24∧b≠26∧b≠27)(hc2:b<32)(ht:dR p.st=false)(he:gS p.st=false)(R:Rt)(h:R (.ret (.tup [])) (aQ X p (l++if p.st≤5 then [uL b] else []))):ao prog w0 82 [.own X.length 0,.int .u8 b] (aQ X p l) R:=by
 have c1:=iC hn
 have c2:=kp p.st
 obtain⟨q2,q3,q4⟩:=wh he
 rcases c2 with⟨c2,_⟩|⟨_,c5,c6,c7⟩
 ·rw [ht] at c2;cases c2
 have e24:((b:Int)==24)=false:=ν
 have e26:((b:Int)==26)=false:=ν
 have e27:((b:Int)==27)=false:=ν
 have d128:decide ((128:Int)≤(b:Int))=false:=κ
 have d32:decide ((b:Int)<32)=true:=κ
 have hw:ae.wrap (b:Int)=(b:Int):=ai _ ω
 have k0:=Ar w0 X p l (uL b) hl
 rw [show (uL b).av=.agg [.int .i64 2,.int .i64 b,.int .u8 0,.int .u8 0,.sval false [],.str [],.str []] from rfl] at k0
 simp only [aQ,dL,dU] at k0
 by_cases h5:p.st≤5
 ·rw [if_pos h5] at h
  have d5:decide ((p.st:Int)≤5)=true:=κ
  have H:=ab h
  clear h hl hp hb hn hc hc2 h5
  rcases c1 with⟨c8,c9,_⟩|c8
  all_goals
   refine eN func82 rfl ntmps82 fun hO=>?_
   have HO:=ab hO
   clear hO
   unfold aQ dL dU
   refine ε1 k0 ?_
   (apply bS HO.out H.out;(· simp);(· (simp only [go_sem, *];try rfl));(· (simp only [go_sem, *];try rfl));(· (simp only [go_sem, *,results82];try rfl)))
 ·rw [if_neg h5,aG] at h
  have d5:decide ((p.st:Int)≤5)=false:=κ
  have H:=ab h
  clear h hl hp hb hn hc hc2 h5
  rcases c1 with⟨c8,c9,_⟩|c8
  all_goals
   refine eN func82 rfl ntmps82 fun hO=>?_
   have HO:=ab hO
   clear hO
   unfold aQ dL dU
   refine ε0 ?_
   (apply bS HO.out H.out;(· simp);(· (simp only [go_sem, *];try rfl));(· (simp only [go_sem, *];try rfl));(· (simp only [go_sem, *,results82];try rfl)))
theorem FY(w0:World)(X:List aH)(p:Ps)(l:List Ev)(b:Nat)(hl:l.length≤1000000)(hp:fj p)(hb:b<256)(hn:dQ p b)(hc:b=127)(ht:dR p.st=false)(he:gS p.st=false)(R:Rt)(h:R (.ret (.tup [])) (aQ X p l)):ao prog w0 82 [.own X.length 0,.int .u8 b] (aQ X p l) R:=by
 have c1:=iC hn
 have c2:=kp p.st
 obtain⟨q2,q3,q4⟩:=wh he
 rcases c2 with⟨c2,_⟩|⟨_,c5,c6,c7⟩
 ·rw [ht] at c2;cases c2
 subst hc
 have H:=ab h
 clear h hl hp hb hn
 rcases c1 with⟨c8,c9,_⟩|c8
 all_goals
  refine eN func82 rfl ntmps82 fun hO=>?_
  have HO:=ab hO
  clear hO
  unfold aQ dL dU
  refine ε0 ?_
  (apply bS HO.out H.out;(· simp);(· (simp only [go_sem, *];try rfl));(· (simp only [go_sem, *];try rfl));(· (simp only [go_sem, *,results82];try rfl)))
end Go.Proofs.YthdbijpefkapnaaGreatDoor
