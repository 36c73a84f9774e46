/- A part of the proof. -/
import Derived.Test.YthdbijpefkapnaaGreatDoorWalk29
import Derived.Test.YthdbijpefkapnaaGreatDoorWalk17
set_option linter.all false
set_option maxHeartbeats 40000000
open And renaming intro → a6
open Bool renaming and_eq_true → ao, false_eq_true → cg
open Go.IntKind renaming i64 → ae, u8 → aX
open Go.IntWalk renaming i64_in → ah, u8_in → di
open Go.Lib renaming hid → ab
open Int renaming cast_ofNat_Int → bw, natCast_zero → GR, tmod_eq_emod_of_nonneg → yW
open List renaming append_nil → aG, drop_eq_getElem_cons → p9, drop_of_length_le → jz, getD_cons_succ → b7, getD_cons_zero → bE, getElem?_eq_getElem → al, length_append → ai, length_cons → aB, length_drop → BJ, length_eq_one_iff → p8, length_nil → aL, length_pos_iff → nt, map_append → aY, map_cons → ap, map_nil → aq, mem_cons → bz, mem_of_getElem? → ax, not_mem_nil → gK, take → pi, take_of_length_le → dV, take_succ_cons → aZ, take_zero → aP
open List.cons renaming injEq → lV
open Nat renaming le_refl → a8, le_trans → eT, reduceAdd → cM, zero_add → bC, zero_le → bf
open Option renaming toList_some → ip
open Option.some renaming inj → bc
namespace Go.Proofs.YthdbijpefkapnaaGreatDoor
open Go Go.Fen Go.Proofs.Tryz
attribute [local irreducible] aW WP aj dS jl cQ aV cV
set_option maxRecDepth 8000
variable (w0:World) (S:List aH)
theorem CN(s:List Int)(h1:1≤s.length)(h6:s.length≤6)(R:Rt)(h:PR R S (if s.length=1 then ir (max 0 (s.headD 0)) else dy s)):aj prog w0 280 [cB s] S R:=by
 match s,h1,h6 with
 | [a],_,_=>exact CU w0 S a R h
 | [a,b],_,_=>exact CT w0 S a b R h
 | [a,b,c],_,_=>exact CS w0 S a b c R h
 | [a,b,c,d],_,_=>exact CQ w0 S a b c d R h
 | [a,b,c,d,e],_,_=>exact CP w0 S a b c d e R h
 | [a,b,c,d,e,f],_,_=>exact CO w0 S a b c d e f R h
 | _::_::_::_::_::_::_::_,_,h=>simp at h
theorem td{s:List Int}{r:List (List Int)}{x:Int}{t:List Int}(h:dD (s::r)=x::t):s.length=1∧max 0 (s.headD 0)=x:=by
 match s,h with
 | [],h=>cases h
 | [n],h=>simp only [dD,lV] at h;exact⟨rfl,h.1⟩
 | _::_::_,h=>cases h
theorem BT{s:List Int}{r:List (List Int)}(h:dD (s::r)=[]):s.length≠1:=by
 match s,h with
 | [],_=>simp
 | [n],h=>simp [dD] at h
 | _::_::_,_=>simp
theorem kx{s:List Int}{r:List (List Int)}{vs:List Int}(h:dD (s::r)=vs)(h2:∀ x n g t,vs=x::g::t→bR x=some n→g≠5∧g≠2):dM (s::r)=(if s.length=1 then ir (max 0 (s.headD 0)) else dy s,1):=by
 unfold dM
 rw [h]
 match vs,h,h2 with
 | [],h,_=>rw [if_neg (BT h)];rfl
 | [x],h,_ =>
  obtain⟨e1,e2⟩:=td h
  rw [if_pos e1,e2]
  simp only
  cases bR x<;>rfl
 | x::g::t,h,h2 =>
  obtain⟨e1,e2⟩:=td h
  rw [if_pos e1,e2]
  cases hw:bR x with
  | none=>simp only [hw]
  | some n =>
   obtain⟨k5,k2⟩:=h2 x n g t rfl hw
   simp only [hw]
   rw [if_neg k5,if_neg k2]
theorem BS(vs:List Int):vs=[]∨(∃ x,vs=[x])∨(∃ x g t,vs=x::g::t∧bR x=none)∨(∃ x n g t,vs=x::g::t∧bR x=some n∧g≠5∧g≠2)∨(∃ x n,vs=[x,5]∧bR x=some n)∨(∃ x n a t,vs=x::5::a::t∧bR x=some n) ∨
  (∃ x n t,vs=x::2::t∧bR x=some n∧t.length<3)∨(∃ x n a b c t,vs=x::2::a::b::c::t∧bR x=some n):=by
 match vs with
 | []=>simp
 | [x]=>simp
 | x::g::t =>
  cases hw:bR x with
  | none=>exact .inr (.inr (.inl ⟨x,g,t,rfl,hw⟩))
  | some n =>
   by_cases h5:g=5
   ·subst h5
    match t with
    | []=>exact .inr (.inr (.inr (.inr (.inl ⟨x,n,rfl,hw⟩))))
    | a::t=>exact .inr (.inr (.inr (.inr (.inr (.inl ⟨x,n,a,t,rfl,hw⟩)))))
   ·by_cases h2:g=2
    ·subst h2
     match t with
     | a::b::c::t=>exact .inr (.inr (.inr (.inr (.inr (.inr (.inr ⟨x,n,a,b,c,t,rfl,hw⟩))))))
     | []=>exact .inr (.inr (.inr (.inr (.inr (.inr (.inl ⟨x,n,[],rfl,hw,by simp⟩))))))
     | [a]=>exact .inr (.inr (.inr (.inr (.inr (.inr (.inl ⟨x,n,[a],rfl,hw,by simp⟩))))))
     | [a,b]=>exact .inr (.inr (.inr (.inr (.inr (.inr (.inl ⟨x,n,[a,b],rfl,hw,by simp⟩))))))
    ·exact .inr (.inr (.inr (.inl ⟨x,n,g,t,rfl,hw,h5,h2⟩)))
theorem kN{x n:Int}(h:bR x=some n):decide ((0:Int)≤n)=true:=by
 unfold bR at h
 repeat' split at h
 all_goals first|(cases h;rfl)|cases h
theorem Fp(l:List (List Int))(hne:l≠[])(hl:l.length≤100)(hs:∀ s∈l,1≤s.length∧s.length≤6)(R:Rt)(h:FR R S (dM l)):aj prog w0 237 [.sval false (l.map cB)] S R:=by
 obtain⟨s,r,hsr⟩:∃ s r,l=s::r:=by
  match l,hne with
  | s::r,_=>exact⟨s,r,rfl⟩
 have hl0:l[0]? = some s:=by rw [hsr];rfl
 have hs0:=hs s (by rw [hsr];simp)
 have Hal:=ab (fun S' R=>CN w0 S' s hs0.1 hs0.2 R)
 have hvl:=kP l
 have H:=ab h
 have Hsr:=ab hsr
 clear h hs hs0 hne hsr
 refine eN func237 rfl ntmps237 fun hO=>?_
 have HO:=ab hO
 clear hO
 repeat' first|refine st ?_|(refine br ?_ ?_<;>intro hb)|fail
 refine jp (t:=5) 3 1 ss (by decide) ?_
 try simp only [go_sem, *]
 refine Kf (fun x env S'=>x=.exit 0∧env 1000000=.dfr []∧env 0=.sval false (l.map cB)∧env 2=.own S.length 0∧env 5=.sown (S.length+1) (dD l).length (dD l).length∧S'=S++[.cells [.int .i64 0,.int .i64 0,.int .i64 0,.int .i64 0,.int .i64 0,.str []] none,.arr 3 1 0 (dD l).length ((dD l).map eE)]) ?loop ?tail
 case loop =>
  clear hl0 hvl
  refine cW (fun (p:Nat × List Int) env S'=>p.1≤l.length∧dD l=p.2++dD (l.drop p.1)∧p.2.length=p.1∧env 1000000=.dfr []∧env 0=.sval false (l.map cB)∧env 2=.own S.length 0∧env 5=.sown (S.length+1) p.1 p.1∧env 6=.int .i64 (p.1:Int) ∧
   S'=S++[.cells [.int .i64 0,.int .i64 0,.int .i64 0,.int .i64 0,.int .i64 0,.str []] none,.arr 3 1 0 p.1 (p.2.map eE)]) (fun p=>l.length - p.1) (0,[]) ?_ ?_
  ·exact⟨bf _,rfl,rfl,ss,ss,ss,ss,ss,ss⟩
  ·rintro⟨k,vs⟩ env S' ⟨hk,hv,hvl2,e0,f0,f2,f5,f6,rfl⟩ IH
   have HI:=ab IH
   clear IH
   simp only at hk hv hvl2 f5 f6 ⊢
   have hlm:(vs.map eE).length=k:=by simp [hvl2]
   by_cases hlt:k<l.length
   ·obtain⟨x,hx⟩:∃ x,l[k]? = some x:=⟨_,al hlt⟩
    have hd:l.drop k=x::l.drop (k+1):=by
     rw [p9 hlt]
     congr 1
     rw [al hlt] at hx
     exact bc hx
    have h1:decide ((k:Int)<(l.length:Int))=true:=by simpa using hlt
    by_cases hx1:x.length=1
    ·obtain⟨n,rfl⟩:=p8.1 hx1
     have hw:ae.wrap ((k:Int)+1)=((k+1:Nat):Int):=by rw [ah _ (by omega)];omega
     have hm:(if n>0 then n else 0)=max 0 n:=by split<;>omega
     have hv2:dD l=(vs++[max 0 n])++dD (l.drop (k+1)):=by rw [hv,hd];simp [dD]
     have hp:cB [n]=.agg [.sval false [.int .i64 n]]:=rfl
     have hb8:(k+1) * 8≤140737488355328:=by omega
     generalize max 0 n=q at *
     have Hv:=ab (a6 hv2 (a6 hvl2 hlt))
     clear hk hv hvl2 hlt hd hx1 hv2 hl
     repeat' first|refine st ?_|(refine br ?_ ?_<;>intro hb)|fail
     refine cw HO.out 2 [0,2,5,6] rfl ss ss ss ?_
     simp only [aZ,aP]
     refine HI.out (k+1,vs++[q]) _ _ (by have:=Hv.out.2.2;simp only;omega) ⟨Hv.out.2.2,Hv.out.1,by simp [Hv.out.2.1],ss,ss,ss,ss,ss, ?_⟩
     rw [aY];first|done|rfl
    ·have hvv:dD l=vs:=by rw [hv,hd,nu _ hx1,aG]
     have hp:cB x=.agg [.sval false (x.map eE)]:=rfl
     have hd1:((x.length:Int)==1)=false:=by simp only [beq_eq_false_iff_ne];omega
     rw [hvv,hvl2]
     clear hk hv hvl2 hlt hd hx1 HI hvv hl
     repeat' first|refine st ?_|(refine br ?_ ?_<;>intro hb)|fail
     exact⟨rfl,ss,ss,ss,ss,rfl⟩
   ·have h1:decide ((k:Int)<(l.length:Int))=false:=by simpa using hlt
    have hvv:dD l=vs:=by rw [hv,jz (by omega)];simp [dD]
    rw [hvv,hvl2]
    clear hk hv hvl2 hlt HI hvv hl
    repeat' first|refine st ?_|(refine br ?_ ?_<;>intro hb)|fail
    exact⟨rfl,ss,ss,ss,ss,rfl⟩
 case tail =>
  rintro _ env S' ⟨rfl,e0,f0,f2,f5,rfl⟩
  have hh:=H.out
  have hsr:=Hsr.out
  have hco:=g_ w0
  simp only [dC,Ac.av] at hco
  generalize hvs:dD l=vs at *
  rcases BS vs with rfl|⟨x,rfl⟩|⟨x,g,t,rfl,hw⟩|⟨x,n,g,t,rfl,hw,g5,g2⟩|⟨x,n,rfl,hw⟩|⟨x,n,a,t,rfl,hw⟩|⟨x,n,t,rfl,hw,ht⟩|⟨x,n,a,b,c,t,rfl,hw⟩
  ·rw [hsr,kx (vs:=[]) (by rw [← hsr];exact hvs) (by intro _ _ _ _ e;cases e)] at hh
   have hal:=Hal.out
   simp only [aL,aB,ap,aq,eE,bC,cM] at f5 hvl ⊢
   clear hvs hsr hvl hl hco
   generalize (if s.length=1 then ir (max 0 (s.headD 0)) else dy s)=oo at hh hal
   cases oo with
   | none =>
    simp only [PR,FR] at hh hal
    repeat' first|refine st ?_|(refine ca ?_;apply hal)|(refine br ?_ ?_<;>intro hb)|fail
    rintro⟨ak,an,am,ack,acn,tx⟩
    simp only [Ac.av,aV,putA]
    repeat' first|refine st ?_|(refine br ?_ ?_<;>intro hb)|fail
    refine fR results237 ?_
    exact hh ⟨ak,an,am,ack,acn,tx⟩
   | some z =>
    obtain⟨ak,an,am,ack,acn,tx⟩:=z
    simp only [PR,FR,Ac.av] at hh hal
    repeat' first|refine st ?_|(refine ca ?_;apply hal)|(refine br ?_ ?_<;>intro hb)|fail
    refine fR results237 ?_
    exact hh
  ·rw [hsr,kx (vs:=[x]) (by rw [← hsr];exact hvs) (by intro _ _ _ _ e;cases e)] at hh
   have hal:=Hal.out
   simp only [aL,aB,ap,aq,eE,bC,cM] at f5 hvl ⊢
   clear hvs hsr hvl hl hco
   generalize (if s.length=1 then ir (max 0 (s.headD 0)) else dy s)=oo at hh hal
   cases oo with
   | none =>
    simp only [PR,FR] at hh hal
    repeat' first|refine st ?_|(refine ca ?_;apply hal)|(refine br ?_ ?_<;>intro hb)|fail
    rintro⟨ak,an,am,ack,acn,tx⟩
    simp only [Ac.av,aV,putA]
    repeat' first|refine st ?_|(refine br ?_ ?_<;>intro hb)|fail
    refine fR results237 ?_
    exact hh ⟨ak,an,am,ack,acn,tx⟩
   | some z =>
    obtain⟨ak,an,am,ack,acn,tx⟩:=z
    simp only [PR,FR,Ac.av] at hh hal
    repeat' first|refine st ?_|(refine ca ?_;apply hal)|(refine br ?_ ?_<;>intro hb)|fail
    refine fR results237 ?_
    exact hh
  ·rw [hsr,kx (vs:=x::g::t) (by rw [← hsr];exact hvs) (by intro x n g t e e2;cases e;rw [hw] at e2;cases e2)] at hh
   have hwh:=fun S'=>gZ w0 S' x
   unfold iB at hwh
   rw [hw] at hwh
   simp only at hwh
   have p0:(0:Int)<((t.length+1+1:Nat):Int):=by omega
   have p1:(1:Int)<((t.length+1+1:Nat):Int):=by omega
   have dl:decide ((2:Int)≤((t.length+1+1:Nat):Int))=true:=decide_eq_true (by omega)
   clear hw
   have hal:=Hal.out
   simp only [aL,aB,ap,aq,eE,bC,cM] at f5 hvl ⊢
   clear hvs hsr hvl hl hco
   generalize (if s.length=1 then ir (max 0 (s.headD 0)) else dy s)=oo at hh hal
   cases oo with
   | none =>
    simp only [PR,FR] at hh hal
    repeat' first|refine st ?_|(refine ca ?_;first|apply hwh|apply hal)|(refine br ?_ ?_<;>intro hb)|fail
    rintro⟨ak,an,am,ack,acn,tx⟩
    simp only [Ac.av,aV,putA]
    repeat' first|refine st ?_|(refine br ?_ ?_<;>intro hb)|fail
    refine fR results237 ?_
    exact hh ⟨ak,an,am,ack,acn,tx⟩
   | some z =>
    obtain⟨ak,an,am,ack,acn,tx⟩:=z
    simp only [PR,FR,Ac.av] at hh hal
    repeat' first|refine st ?_|(refine ca ?_;first|apply hwh|apply hal)|(refine br ?_ ?_<;>intro hb)|fail
    refine fR results237 ?_
    exact hh
  ·rw [hsr,kx (vs:=x::g::t) (by rw [← hsr];exact hvs) (by intro x n g t e e2;cases e;exact⟨g5,g2⟩)] at hh
   have hwh:=fun S'=>gZ w0 S' x
   unfold iB at hwh
   rw [hw] at hwh
   simp only at hwh
   have p0:(0:Int)<((t.length+1+1:Nat):Int):=by omega
   have p1:(1:Int)<((t.length+1+1:Nat):Int):=by omega
   have dl:decide ((2:Int)≤((t.length+1+1:Nat):Int))=true:=decide_eq_true (by omega)
   have hnp:=kN hw
   have d5:(g==5)=false:=by simpa using g5
   have d2:(g==2)=false:=by simpa using g2
   clear hw g5 g2
   have hal:=Hal.out
   simp only [aL,aB,ap,aq,eE,bC,cM] at f5 hvl ⊢
   clear hvs hsr hvl hl hco
   generalize (if s.length=1 then ir (max 0 (s.headD 0)) else dy s)=oo at hh hal
   cases oo with
   | none =>
    simp only [PR,FR] at hh hal
    repeat' first|refine st ?_|(refine ca ?_;first|apply hwh|apply hal)|(refine br ?_ ?_<;>intro hb)|refine sd ?_|apply au|(apply aF;(· decide +kernel))|refine bd ?_ ?_|(refine cd ?_;first|apply hwh|apply hal)|fail
    rintro⟨ak,an,am,ack,acn,tx⟩
    simp only [Ac.av,aV,putA]
    repeat' first|refine st ?_|(refine br ?_ ?_<;>intro hb)|fail
    refine fR results237 ?_
    exact hh ⟨ak,an,am,ack,acn,tx⟩
   | some z =>
    obtain⟨ak,an,am,ack,acn,tx⟩:=z
    simp only [PR,FR,Ac.av] at hh hal
    repeat' first|refine st ?_|(refine ca ?_;first|apply hwh|apply hal)|(refine br ?_ ?_<;>intro hb)|refine sd ?_|apply au|(apply aF;(· decide +kernel))|refine bd ?_ ?_|(refine cd ?_;first|apply hwh|apply hal)|fail
    refine fR results237 ?_
    exact hh
  ·have hfr:dM l=(none,min 3 l.length):=by unfold dM;rw [hvs];simp only [hw];rfl
   rw [hfr] at hh
   have hwh:=fun S'=>gZ w0 S' x
   unfold iB at hwh
   rw [hw] at hwh
   simp only at hwh
   have hnp:=kN hw
   have hmn:(if (l.length:Int)<3 then (l.length:Int) else 3)=((min 3 l.length:Nat):Int):=by split<;>omega
   simp only [aL,aB,ap,aq,eE,bC,cM,FR] at f5 hh ⊢
   clear hfr hvs hw hsr hvl hl hco Hal
   repeat' first|refine st ?_|(refine ca ?_;apply hwh)|(refine br ?_ ?_<;>intro hb)|refine sd ?_|apply au|(apply aF;(· decide +kernel))|refine bd ?_ ?_|(refine cd ?_;apply hwh)|fail
   refine fR results237 ?_
   exact hh ⟨0,0,0,0,0,[]⟩
  ·have hfr:dM l=(dG n 5 [a],3):=by unfold dM;rw [hvs];simp only [hw,if_true];rw [if_pos (by simp)];rfl
   rw [hfr] at hh
   have hwh:=fun S'=>gZ w0 S' x
   unfold iB at hwh
   rw [hw] at hwh
   simp only at hwh
   have hnp:=kN hw
   have p0:(0:Int)<((t.length+1+1+1:Nat):Int):=by omega
   have p1:(1:Int)<((t.length+1+1+1:Nat):Int):=by omega
   have p2:(2:Int)<((t.length+1+1+1:Nat):Int):=by omega
   have dl:decide ((2:Int)≤((t.length+1+1+1:Nat):Int))=true:=decide_eq_true (by omega)
   have dm:decide ((3:Int)≤((t.length+1+1+1:Nat):Int))=true:=decide_eq_true (by omega)
   have hmn:(if (l.length:Int)<3 then (l.length:Int) else 3)=3:=by simp only [aB] at hvl;split<;>omega
   have hwi:=fun S'=>mi w0 S' [a] (by simp)
   have okC:=eE.ok t
   simp only [aL,aB,ap,aq,eE,bC,cM] at f5 hwi ⊢
   unfold dG at hh
   clear hfr hvs hw hsr hvl hl Hal
   cases hb:m5 [a] with
   | false =>
    rw [hb] at hh hwi
    simp only [if_true,FR] at hh
    clear hb hco
    repeat' first|refine st ?_|(refine ca ?_;first|apply hwh|apply hwi)|(apply cZ [S.length+2];(· simp only [go_sem, *];try rfl);(· rfl);(· simp only [go_sem, *];try rfl);(· rfl);(iterate 2 (· simp only [go_sem, *];try rfl));first|apply hwh|apply hwi)|(refine br ?_ ?_<;>intro hb)|refine sd ?_|apply au|(apply aF;(· decide +kernel))|refine bd ?_ ?_|(refine cd ?_;first|apply hwh|apply hwi)|(apply iI [S.length+2];(iterate 2 (· simp only [go_sem, *];try rfl));(· rfl);(· simp only [go_sem, *];try rfl);(· rfl);(iterate 2 (· simp only [go_sem, *];try rfl));first|apply hwh|apply hwi)|fail
    refine fR results237 ?_
    exact hh ⟨0,0,0,0,0,[]⟩
   | true =>
    rw [hb] at hh hwi
    rw [if_neg (by simp),if_pos (by simp)] at hh
    simp only [bE,FR,dC,Ac.av] at hh
    clear hb hmn
    repeat' first|refine st ?_|(refine ca ?_;first|apply hwh|apply hwi|apply hco)|(apply cZ [S.length+2];(· simp only [go_sem, *];try rfl);(· rfl);(· simp only [go_sem, *];try rfl);(· rfl);(iterate 2 (· simp only [go_sem, *];try rfl));first|apply hwh|apply hwi|apply hco)|(refine br ?_ ?_<;>intro hb)|refine sd ?_|apply au|(apply aF;(· decide +kernel))|refine bd ?_ ?_|(refine cd ?_;first|apply hwh|apply hwi|apply hco)|(apply iI [S.length+2];(iterate 2 (· simp only [go_sem, *];try rfl));(· rfl);(· simp only [go_sem, *];try rfl);(· rfl);(iterate 2 (· simp only [go_sem, *];try rfl));first|apply hwh|apply hwi|apply hco)|fail
    refine fR results237 ?_
    exact hh
  ·have hfr:dM l=(none,min 5 l.length):=by unfold dM;rw [hvs];simp only [hw];rw [if_neg (by decide),if_pos trivial,if_neg (by omega)]
   rw [hfr] at hh
   have hwh:=fun S'=>gZ w0 S' x
   unfold iB at hwh
   rw [hw] at hwh
   simp only at hwh
   have hnp:=kN hw
   have p0:(0:Int)<((t.length+1+1:Nat):Int):=by omega
   have p1:(1:Int)<((t.length+1+1:Nat):Int):=by omega
   have dl:decide ((2:Int)≤((t.length+1+1:Nat):Int))=true:=decide_eq_true (by omega)
   have dm:decide ((5:Int)≤((t.length+1+1:Nat):Int))=false:=by simp only [decide_eq_false_iff_not];omega
   have hmn:(if (l.length:Int)<5 then (l.length:Int) else 5)=((min 5 l.length:Nat):Int):=by split<;>omega
   simp only [aL,aB,ap,aq,eE,bC,cM,FR] at f5 hh ⊢
   clear hfr hvs hw hsr hvl hl hco Hal ht
   repeat' first|refine st ?_|(refine ca ?_;apply hwh)|(refine br ?_ ?_<;>intro hb)|refine sd ?_|apply au|(apply aF;(· decide +kernel))|refine bd ?_ ?_|(refine cd ?_;apply hwh)|fail
   refine fR results237 ?_
   exact hh ⟨0,0,0,0,0,[]⟩
  ·have hfr:dM l=(dG n 2 [a,b,c],5):=by unfold dM;rw [hvs];simp only [hw];rw [if_neg (by decide),if_pos trivial,if_pos (by simp)];rfl
   rw [hfr] at hh
   have hwh:=fun S'=>gZ w0 S' x
   unfold iB at hwh
   rw [hw] at hwh
   simp only at hwh
   have hnp:=kN hw
   have p0:(0:Int)<((t.length+1+1+1+1+1:Nat):Int):=by omega
   have p1:(1:Int)<((t.length+1+1+1+1+1:Nat):Int):=by omega
   have p2:(2:Int)<((t.length+1+1+1+1+1:Nat):Int):=by omega
   have p3:(3:Int)<((t.length+1+1+1+1+1:Nat):Int):=by omega
   have p4:(4:Int)<((t.length+1+1+1+1+1:Nat):Int):=by omega
   have dl:decide ((2:Int)≤((t.length+1+1+1+1+1:Nat):Int))=true:=decide_eq_true (by omega)
   have dm:decide ((5:Int)≤((t.length+1+1+1+1+1:Nat):Int))=true:=decide_eq_true (by omega)
   have hmn:(if (l.length:Int)<5 then (l.length:Int) else 5)=5:=by simp only [aB] at hvl;split<;>omega
   have hwi:=fun S'=>mi w0 S' [a,b,c] (by simp)
   simp only [aL,aB,ap,aq,eE,bC,cM] at f5 hwi ⊢
   unfold dG at hh
   clear hfr hvs hw hsr hvl hl Hal hco
   cases hb:m5 [a,b,c] with
   | false =>
    rw [hb] at hh hwi
    simp only [if_true,FR] at hh
    clear hb
    repeat' first|refine st ?_|(refine ca ?_;first|apply hwh|apply hwi)|(apply cZ [S.length+2];(· simp only [go_sem, *];try rfl);(· rfl);(· simp only [go_sem, *];try rfl);(· rfl);(iterate 2 (· simp only [go_sem, *];try rfl));first|apply hwh|apply hwi)|(refine br ?_ ?_<;>intro hb)|refine sd ?_|apply au|(apply aF;(· decide +kernel))|refine bd ?_ ?_|(refine cd ?_;first|apply hwh|apply hwi)|(apply iI [S.length+2];(iterate 2 (· simp only [go_sem, *];try rfl));(· rfl);(· simp only [go_sem, *];try rfl);(· rfl);(iterate 2 (· simp only [go_sem, *];try rfl));first|apply hwh|apply hwi)|fail
    refine fR results237 ?_
    exact hh ⟨0,0,0,0,0,[]⟩
   | true =>
    have hrg:=fun S' n=>CM w0 S' n a b c hb
    rw [hb] at hh hwi
    rw [if_neg (by simp),if_neg (by simp),if_pos (by simp)] at hh
    simp only [bE,b7,FR,dC,Ac.av] at hh hrg
    clear hb hmn
    repeat' first|refine st ?_|(refine ca ?_;first|apply hwh|apply hwi|apply hrg)|(apply cZ [S.length+2];(· simp only [go_sem, *];try rfl);(· rfl);(· simp only [go_sem, *];try rfl);(· rfl);(iterate 2 (· simp only [go_sem, *];try rfl));first|apply hwh|apply hwi|apply hrg)|(refine br ?_ ?_<;>intro hb)|refine sd ?_|apply au|(apply aF;(· decide +kernel))|refine bd ?_ ?_|(refine cd ?_;first|apply hwh|apply hwi|apply hrg)|(apply iI [S.length+2];(iterate 2 (· simp only [go_sem, *];try rfl));(· rfl);(· simp only [go_sem, *];try rfl);(· rfl);(iterate 2 (· simp only [go_sem, *];try rfl));first|apply hwh|apply hwi|apply hrg)|fail
    refine fR results237 ?_
    exact hh
theorem IZ(l:List (List Int))(hok:dQ l=true)(R:Rt)(h:R (.ret (.tup [.sval false ((jS l).map Ac.av),.int .i64 0])) S):aj prog w0 198 [.sval false (l.map cB)] S R:=by
 obtain⟨hl,hs⟩:=kq hok
 have hck:=fun S'=>zw w0 S' l
 unfold oz at hck
 rw [if_pos hok] at hck
 unfold jS at h
 by_cases hne:l=[]
 ·subst hne
  rw [if_pos rfl] at h
  have hpn:=rn w0
  simp only [df,Ac.av,ap,aq] at h hpn hck ⊢
  clear hl hs hok
  refine eN func198 rfl ntmps198 fun hO=>?_
  repeat' first|refine st ?_|(refine ca ?_;first|apply hck|apply hpn)|(refine br ?_ ?_<;>intro hb)|fail
  refine fR results198 ?_
  exact h
 ·rw [if_neg hne] at h
  have hle:((l.length:Int)==0)=false:=by
   have:=nt.2 hne
   simp only [beq_eq_false_iff_ne];omega
  have H:=ab h
  clear h hok hne
  refine eN func198 rfl ntmps198 fun hO=>?_
  have HO:=ab hO
  clear hO
  repeat' first|refine st ?_|(refine ca ?_;apply hck)|(refine br ?_ ?_<;>intro hb)|fail
  clear hck hle
  refine jp (t:=4) 25 6 ss (by decide) ?_
  try simp only [go_sem, *]
  refine cW (fun (p:List Ac × List (List Int) × Nat) env S'=>p.2.1.length≤p.2.2∧gR l.length l=p.1++gR p.2.2 p.2.1∧(p.2.1.length≤100∧∀ s∈p.2.1,1≤s.length∧s.length≤6)∧env 1000000=.dfr []∧env 0=.sval false (p.2.1.map cB)∧env 4=.sown S.length p.1.length p.1.length∧S'=S++[.arr 25 6 0 p.1.length (p.1.map Ac.av)]) (fun p=>p.2.1.length) ([],l,l.length) ?_ ?_
  ·exact⟨a8 _,rfl,⟨by simp only;omega,hs⟩,ss,ss,ss,ss⟩
  ·rintro⟨ys,rem,k⟩ env S' ⟨hk,hp,hsz,e0,f0,f4,rfl⟩ IH
   have HI:=ab IH
   clear IH hs
   simp only at hk hp hsz f0 f4 ⊢
   have okY:=Ac.ok ys
   simp only [cN,AV.cells] at okY
   by_cases hne:rem=[]
   ·subst hne
    have hh:=H.out
    rw [hp,show gR k []=[] by cases k<;>simp [gR],aG] at hh
    simp only [aq] at f0
    clear hp hsz hk HI hl
    repeat' first|refine st ?_|(refine br ?_ ?_<;>intro hb)|fail
    refine fR results198 ?_
    exact hh
   ·have hlp:0<rem.length:=nt.2 hne
    have h1:decide ((0:Int)<(rem.length:Int))=true:=decide_eq_true (by omega)
    obtain⟨k',rfl⟩:∃ k',k=k'+1:=⟨k - 1,by omega⟩
    have hfn:=qY hne
    have hfr:=fun S' R=>Fp w0 S' rem hne hsz.1 hsz.2 R
    have hpp:gR (k'+1) rem=(dM rem).1.toList++gR k' (rem.drop (dM rem).2):=by
     show (if rem=[] then [] else _)=_
     rw [if_neg hne]
    rw [hpp] at hp
    rcases hfo:dM rem with⟨o,m⟩
    rw [hfo] at hp hfn hfr
    simp only at hp hfn
    have okP:=cB.all1 rem
    simp only [AV.cells] at okP
    have hmi:(m:Int)≤(rem.length:Int):=by omega
    have hdl:(rem.drop m).length<rem.length:=by rw [BJ];omega
    have Hd:=ab (show (rem.drop m).length≤k'∧((rem.drop m).length≤100∧∀ s∈rem.drop m,1≤s.length∧s.length≤6) by
     exact⟨by omega,by omega,fun s hs=>hsz.2 s (List.mem_of_mem_drop hs)⟩)
    have Hdl:=ab hdl
    have Hp:=ab hp
    have hdm:List.drop m (pi rem.length (rem.map cB))=(rem.drop m).map cB:=by
     rw [dV (by simp)];exact List.map_drop.symm
    have hyl:=ru l.length l
    rw [hp] at hyl
    clear hpp hfo hp hk hsz hne hlp hfn hdl H
    cases o with
    | none =>
     simp only [FR] at hfr
     clear hyl hl
     repeat' first|refine st ?_|(refine ca ?_;apply hfr)|(refine br ?_ ?_<;>intro hb)|fail
     rintro⟨ak,an,am,ack,acn,tx⟩
     simp only [Ac.av,aV,putA]
     repeat' first|refine st ?_|(refine br ?_ ?_<;>intro hb)|fail
     refine cw HO.out 1 [0,4] rfl ss ss ss ?_
     simp only [aZ,aP]
     exact HI.out (ys,rem.drop m,k') _ _ Hdl.out ⟨Hd.out.1,by simpa using Hp.out,Hd.out.2,ss,ss,ss,ss⟩
    | some c =>
     obtain⟨ak,an,am,ack,acn,tx⟩:=c
     simp only [FR,Ac.av] at hfr
     have hb:(ys.length+1) * 56≤140737488355328:=by
      simp only [ip,ai,aB,aL] at hyl
      omega
     have hcl:(ys.map Ac.av).length=ys.length:=by simp
     clear hyl hl
     repeat' first|refine st ?_|(refine ca ?_;apply hfr)|(refine br ?_ ?_<;>intro hb)|fail
     refine cw HO.out 1 [0,4] rfl ss ss ss ?_
     simp only [aZ,aP]
     refine HI.out (ys++[⟨ak,an,am,ack,acn,tx⟩],rem.drop m,k') _ _ Hdl.out ⟨Hd.out.1,by simpa using Hp.out,Hd.out.2,ss,ss,by rw [ai];(simp only [go_sem, *];try rfl), ?_⟩
     rw [ai,aY];first|done|rfl
def vq(e:Ev)(pv:Nat)(it:List UInt8):List Ac:=match od ⟨pv,it,e.fin⟩ with
 | some q=>jr q e.pars
 | none=>[]
theorem xg{e:Ev}{pv:Nat}{it:List UInt8}(h:(⟨pv,it,e.fin⟩:Wy)∉qw.map (·.1)):vq e pv it=[]:=by
 unfold vq
 rw [Ci h]
theorem rj:qw.map (·.1)=[⟨0,[],71⟩,⟨0,[],96⟩,⟨0,[],100⟩,⟨0,[],73⟩,⟨0,[],90⟩,⟨0,[],64⟩,⟨0,[],80⟩,⟨0,[],88⟩,⟨0,[],76⟩,⟨0,[],77⟩,⟨0,[],98⟩,⟨0,[],74⟩,⟨0,[],75⟩,⟨0,[],103⟩,⟨0,[],110⟩,⟨0,[],65⟩,⟨0,[],66⟩,⟨0,[],67⟩,⟨0,[],68⟩,⟨0,[],69⟩,⟨0,[],70⟩,⟨0,[],83⟩,⟨0,[],84⟩,⟨0,[],72⟩,⟨0,[],102⟩,⟨0,[],108⟩,⟨63,[],108⟩,⟨0,[],104⟩,⟨63,[],104⟩,⟨0,[],99⟩,⟨62,[],99⟩,⟨0,[],114⟩,⟨0,[],115⟩,⟨0,[],117⟩,⟨0,[],109⟩,⟨0,[32],113⟩,⟨0,[33],112⟩,⟨0,[36],112⟩,⟨63,[36],112⟩]:=rfl
theorem Iy(fi:Nat)(h1:¬ (fi=71∨fi=96∨fi=100∨fi=73∨fi=90∨fi=64∨fi=80∨fi=88∨fi=76∨fi=77∨fi=98∨fi=74∨fi=75∨fi=103∨fi=110∨fi=65∨fi=66∨fi=67∨fi=68∨fi=69∨fi=70∨fi=83∨fi=84∨fi=72∨fi=102∨fi=114∨fi=115∨fi=117))(h2:¬ (fi=104∨fi=108))(h3:¬ fi=109)(h4:¬ fi=99):(⟨0,[],fi⟩:Wy)∉qw.map (·.1):=by
 rw [rj]
 intro hm
 simp only [bz,Wy.mk.injEq,gK,or_false,true_and,and_true,reduceCtorEq,and_false,false_and,false_or] at hm
 rcases hm with rfl|rfl|rfl|rfl|rfl|rfl|rfl|rfl|rfl|rfl|rfl|rfl|rfl|rfl|rfl|rfl|rfl|rfl|rfl|rfl|rfl|rfl|rfl|rfl|rfl|rfl|rfl|rfl|rfl|rfl|rfl|rfl
 all_goals first|(apply h1;decide)|(apply h2;decide)|(apply h3;decide)|(apply h4;decide)
theorem Mu(v:Int):max 1 v=if v>1 then v else 1:=by
 split<;>omega
theorem I0(e:Ev)(hok:dQ e.pars=true)(R:Rt)(h:R (.ret (.sval false ((vq e 0 []).map Ac.av))) S):aj prog w0 127 [e.av,.int .i64 (dX e.pars 0 0),.int .i64 (dX e.pars 1 0)] S R:=by
 have hl:=(kq hok).1
 have ho:=pA w0
 simp only [ap,aq,gy,Ac.av] at ho
 have hpn:=fun S'=>IZ w0 S' e.pars hok
 have hmo:=fun S' k bit=>wq w0 S' k bit e.pars (by omega)
 obtain⟨k,c,pv,fi,ps,it,tx⟩:=e
 simp only at hpn hmo hl
 simp only [Ev.av]
 clear hok hl
 by_cases h1:fi=71∨fi=96∨fi=100∨fi=73∨fi=90∨fi=64∨fi=80∨fi=88∨fi=76∨fi=77∨fi=98∨fi=74∨fi=75∨fi=103∨fi=110∨fi=65∨fi=66∨fi=67∨fi=68∨fi=69∨fi=70∨fi=83∨fi=84∨fi=72∨fi=102∨fi=114∨fi=115∨fi=117
 ·clear hpn hmo
  rcases h1 with rfl|rfl|rfl|rfl|rfl|rfl|rfl|rfl|rfl|rfl|rfl|rfl|rfl|rfl|rfl|rfl|rfl|rfl|rfl|rfl|rfl|rfl|rfl|rfl|rfl|rfl|rfl|rfl
  all_goals
   refine eN func127 rfl ntmps127 fun hO=>?_
   repeat' first|refine st ?_|(refine ca ?_;apply ho)|(refine br ?_ ?_<;>intro hb)|fail
   refine fR results127 ?_
   first|exact h|(rw [show vq _ 0 []=[gy 19 (lN ps) (max 1 (dX ps 1 0))] from rfl,Mu] at h;exact h)
 by_cases h2:fi=104∨fi=108
 ·clear hpn ho h1
  rcases h2 with rfl|rfl
  all_goals
   refine eN func127 rfl ntmps127 fun hO=>?_
   repeat' first|refine st ?_|(refine ca ?_;apply hmo)|(refine br ?_ ?_<;>intro hb)|fail
   refine fR results127 ?_
   exact h
 by_cases h3:fi=109
 ·clear hmo ho h1 h2
  subst h3
  have hL:vq ⟨k,c,pv,109,ps,it,tx⟩ 0 []=jS ps:=rfl
  rw [hL] at h
  generalize jS ps=L at *
  refine eN func127 rfl ntmps127 fun hO=>?_
  repeat' first|refine st ?_|(refine ca ?_;apply hpn)|(refine br ?_ ?_<;>intro hb)|fail
  refine fR results127 ?_
  exact h
 clear hpn hmo
 obtain⟨d71,d96,d100,d73,d90,d64,d80,d88,d76,d77,d98,d74,d75,d103,d110,d65,d66,d67,d68,d69,d70,d83,d84,d72,d102,d114,d115,d117,d104,d108,d109⟩:(((fi:Nat):Int)==71)=false∧(((fi:Nat):Int)==96)=false∧(((fi:Nat):Int)==100)=false∧(((fi:Nat):Int)==73)=false∧(((fi:Nat):Int)==90)=false∧(((fi:Nat):Int)==64)=false∧(((fi:Nat):Int)==80)=false∧(((fi:Nat):Int)==88)=false∧(((fi:Nat):Int)==76)=false∧(((fi:Nat):Int)==77)=false∧(((fi:Nat):Int)==98)=false∧(((fi:Nat):Int)==74)=false∧(((fi:Nat):Int)==75)=false∧(((fi:Nat):Int)==103)=false∧(((fi:Nat):Int)==110)=false∧(((fi:Nat):Int)==65)=false∧(((fi:Nat):Int)==66)=false∧(((fi:Nat):Int)==67)=false∧(((fi:Nat):Int)==68)=false∧(((fi:Nat):Int)==69)=false∧(((fi:Nat):Int)==70)=false∧(((fi:Nat):Int)==83)=false∧(((fi:Nat):Int)==84)=false∧(((fi:Nat):Int)==72)=false∧(((fi:Nat):Int)==102)=false∧(((fi:Nat):Int)==114)=false∧(((fi:Nat):Int)==115)=false∧(((fi:Nat):Int)==117)=false∧(((fi:Nat):Int)==104)=false∧(((fi:Nat):Int)==108)=false∧(((fi:Nat):Int)==109)=false:=by
  simp only [beq_eq_false_iff_ne]
  omega
 by_cases h4:fi=99
 ·subst h4
  have hL:vq ⟨k,c,pv,99,ps,it,tx⟩ 0 []=if dX ps 0 0=0 then [gy 42 0 0] else []:=rfl
  rw [hL] at h
  clear h1 h2 h3
  cases hz:(dX ps 0 0==0) with
  | true =>
   rw [if_pos (by simpa using hz)] at h
   refine eN func127 rfl ntmps127 fun hO=>?_
   repeat' first|refine st ?_|(refine ca ?_;apply ho)|(refine br ?_ ?_<;>intro hb)|fail
   refine fR results127 ?_
   exact h
  | false =>
   rw [if_neg (by simpa using hz)] at h
   clear ho
   simp only [aq] at h
   refine eN func127 rfl ntmps127 fun hO=>?_
   repeat' first|refine st ?_|(refine br ?_ ?_<;>intro hb)|fail
   refine fR results127 ?_
   exact h
 ·rw [xg (e:=⟨k,c,pv,fi,ps,it,tx⟩) (Iy fi h1 h2 h3 h4)] at h
  have d99:(((fi:Nat):Int)==99)=false:=by simp only [beq_eq_false_iff_ne];omega
  clear h1 h2 h3 h4 ho
  simp only [aq] at h
  refine eN func127 rfl ntmps127 fun hO=>?_
  repeat' first|refine st ?_|(refine br ?_ ?_<;>intro hb)|fail
  refine fR results127 ?_
  exact h
theorem CW(p:Nat):p=0∨p=63∨p=62∨((((p:Nat):Int)==0)=false∧(((p:Nat):Int)==63)=false∧(((p:Nat):Int)==62)=false):=by
 simp only [beq_eq_false_iff_ne];omega
theorem Dp(s:List UInt8):s=[]∨s=[32]∨s=[33]∨s=[36]∨((s==[])=false∧(s==[32])=false∧(s==[33])=false∧(s==[36])=false):=by
 simp only [beq_eq_false_iff_ne]
 by_cases h0:s=[]
 ·exact .inl h0
 by_cases h1:s=[32]
 ·exact .inr (.inl h1)
 by_cases h2:s=[33]
 ·exact .inr (.inr (.inl h2))
 by_cases h3:s=[36]
 ·exact .inr (.inr (.inr (.inl h3)))
 exact .inr (.inr (.inr (.inr ⟨h0,h1,h2,h3⟩)))
theorem wo(e:Ev)(hok:dQ e.pars=true)(R:Rt)(h:R (.ret (.sval false ((vp e).map Ac.av))) S):aj prog w0 69 [e.av] S R:=by
 have hl:=(kq hok).1
 have ho:=pA w0
 simp only [ap,aq,gy,Ac.av] at ho
 have hcs:=fun S'=>I0 w0 S' e hok
 have hmo:=fun S' k bit=>wq w0 S' k bit e.pars (by omega)
 have hva:=fun S' i R h=>(kO w0 S' e.pars i 0 R h).2
 have hce:vp e=vq e e.priv e.inter:=rfl
 rw [hce] at h
 by_cases hz:e.priv=0∧e.inter=[]
 ·obtain⟨k,c,pv,fi,ps,it,tx⟩:=e
  obtain⟨rfl,rfl⟩:=hz
  simp only [Ev.av] at hcs hva h ⊢
  generalize vq ⟨k,c,0,fi,ps,[],tx⟩ 0 []=L at *
  clear ho hmo hok hl hce
  refine eN func69 rfl ntmps69 fun hO=>?_
  repeat' first|refine st ?_|(refine ca ?_;first|apply hva|apply hcs)|(refine br ?_ ?_<;>intro hb)|refine sd ?_|apply au|(apply aF;(· decide +kernel))|refine bd ?_ ?_|(refine cd ?_;first|apply hva|apply hcs)|fail
  refine fR results69 ?_
  exact h
 clear hcs
 by_cases hk:(⟨e.priv,e.inter,e.fin⟩:Wy)∈qw.map (·.1)
 ·have hk2:(e.priv=63∧e.inter=[]∧e.fin=108)∨(e.priv=63∧e.inter=[]∧e.fin=104)∨(e.priv=62∧e.inter=[]∧e.fin=99)∨(e.priv=0∧e.inter=[32]∧e.fin=113)∨(e.priv=0∧e.inter=[33]∧e.fin=112)∨(e.priv=0∧e.inter=[36]∧e.fin=112)∨(e.priv=63∧e.inter=[36]∧e.fin=112):=by
   rw [rj] at hk
   simp only [bz,Wy.mk.injEq,gK,or_false] at hk
   rcases hk with hk|hk|hk|hk|hk|hk|hk|hk|hk|hk|hk|hk|hk|hk|hk|hk|hk|hk|hk|hk|hk|hk|hk|hk|hk|hk|hk|hk|hk|hk|hk|hk|hk|hk|hk|hk|hk|hk|hk
   all_goals first|exact .inl hk|exact .inr (.inl hk)|exact .inr (.inr (.inl hk))|exact .inr (.inr (.inr (.inl hk)))|exact .inr (.inr (.inr (.inr (.inl hk))))|exact .inr (.inr (.inr (.inr (.inr (.inl hk)))))|exact .inr (.inr (.inr (.inr (.inr (.inr hk)))))|exact absurd ⟨hk.1,hk.2.1⟩ hz
  obtain⟨k,c,pv,fi,ps,it,tx⟩:=e
  simp only at hmo hva hk2 h
  simp only [Ev.av]
  clear hk hz hok hl hce
  rcases hk2 with⟨rfl,rfl,rfl⟩|⟨rfl,rfl,rfl⟩|⟨rfl,rfl,rfl⟩|⟨rfl,rfl,rfl⟩|⟨rfl,rfl,rfl⟩|⟨rfl,rfl,rfl⟩|⟨rfl,rfl,rfl⟩
  rotate_left 2
  ·have hL:vq ⟨k,c,62,99,ps,[],tx⟩ 62 []=if dX ps 0 0=0 then [gy 42 1 0] else []:=rfl
   rw [hL] at h
   clear hmo
   cases hn:(dX ps 0 0==0) with
   | true =>
    rw [if_pos (by simpa using hn)] at h
    refine eN func69 rfl ntmps69 fun hO=>?_
    repeat' first|refine st ?_|(refine ca ?_;first|apply hva|apply ho)|(refine br ?_ ?_<;>intro hb)|fail
    refine fR results69 ?_
    exact h
   | false =>
    rw [if_neg (by simpa using hn)] at h
    clear ho
    simp only [aq] at h
    refine eN func69 rfl ntmps69 fun hO=>?_
    repeat' first|refine st ?_|(refine ca ?_;apply hva)|(refine br ?_ ?_<;>intro hb)|fail
    refine fR results69 ?_
    exact h
  all_goals
   refine eN func69 rfl ntmps69 fun hO=>?_
   repeat' first|refine st ?_|(refine ca ?_;first|apply hva|apply hmo|apply ho)|(refine br ?_ ?_<;>intro hb)|fail
   refine fR results69 ?_
   exact h
 ·rw [xg hk] at h
  rw [rj] at hk
  simp only [bz,Wy.mk.injEq,gK,or_false] at hk
  simp only [aq] at h
  obtain⟨k,c,pv,fi,ps,it,tx⟩:=e
  simp only at hva hk hz
  simp only [Ev.av]
  clear hok hl hce ho hmo
  rcases CW pv with rfl|rfl|rfl|⟨p0,p1,p2⟩<;>rcases Dp it with rfl|rfl|rfl|rfl|⟨i0,i1,i2,i3⟩
  ·exact absurd ⟨rfl,rfl⟩ hz
  all_goals
   (try have d4:(((fi:Nat):Int)==104)=false:=by (simp only [beq_eq_false_iff_ne];intro e;apply hk;simp;omega))
   (try have d8:(((fi:Nat):Int)==108)=false:=by (simp only [beq_eq_false_iff_ne];intro e;apply hk;simp;omega))
   (try have d9:(((fi:Nat):Int)==99)=false:=by (simp only [beq_eq_false_iff_ne];intro e;apply hk;simp;omega))
   (try have d2:(((fi:Nat):Int)==112)=false:=by (simp only [beq_eq_false_iff_ne];intro e;apply hk;simp;omega))
   (try have d3:(((fi:Nat):Int)==113)=false:=by (simp only [beq_eq_false_iff_ne];intro e;apply hk;simp;omega))
   clear hk hz
   refine eN func69 rfl ntmps69 fun hO=>?_
   repeat' first|refine st ?_|(refine ca ?_;apply hva)|(refine br ?_ ?_<;>intro hb)|fail
   refine fR results69 ?_
   exact h
theorem KC(e:Ev)(ht:e.text.length≤8192)(R:Rt)(h:R (.ret (.tup [.sval false ((uP e).map Ac.av),.int .i64 (if jE e then 0 else 201)])) S):aj prog w0 32 [e.av] S R:=by
 have hck:=fun S'=>wn w0 S' e
 unfold uP at h
 cases hok:jE e with
 | false =>
  rw [hok] at h hck
  simp only [cg,if_false,aq] at h hck
  unfold Ev.av at hck ⊢
  clear ht hok
  refine eN func32 rfl ntmps32 fun hO=>?_
  repeat' first|refine st ?_|(refine ca ?_;apply hck)|(refine br ?_ ?_<;>intro hb)|fail
  refine fR results32 ?_
  exact h
 | true =>
  have hokr:dQ e.pars=true:=by unfold jE at hok;simp only [ao] at hok;exact hok.2
  have hB:=D1 hok
  have hLn:=zT hok
  rw [hok] at h hck
  simp only [if_true] at h hck
  have HR:=ab (fun S' (a:Ac) (hb:xH a)=>Fk w0 S' a (by have:=hb.2;omega))
  unfold jE at hok
  simp only [ao,decide_eq_true_eq] at hok
  obtain⟨⟨hk1,hk6⟩,_⟩:=hok
  obtain⟨k,c,pv,fi,ps,it,tx⟩:=e
  obtain⟨L,hL⟩:∃ L,qB ⟨k,c,pv,fi,ps,it,tx⟩=L:=⟨_,rfl⟩
  rw [hL] at h hB hLn
  unfold qB at hL
  simp only at hL hokr ht hk1 hk6
  have H:=ab h
  have HB:=ab hB
  clear h hB
  simp only [Ev.av] at hck ⊢
  refine eN func32 rfl ntmps32 fun hO=>?_
  have HO:=ab hO
  clear hO
  have Hk:=ab (a6 hk1 hk6)
  have Ht:=ab ht
  have HLn:=ab hLn
  have Hok:=ab hokr
  clear hk1 hk6 ht hLn hokr
  refine share ?K1 ?hK1 fun key1=>?main
  case main =>
   replace key1:=ab key1
   rcases(by have:=Hk.out;omega:k=1∨k=2∨k=3∨k=4∨k=5∨k=6) with hk|hk|hk|hk|hk|hk
   all_goals (have hcj:=hck;rw [hk] at hcj)
   ·have hL1:[gy 1 c 0]=L:=by rw [← hL,if_pos hk]
    have ho:=fun S' R (h:R (.ret (.sval false (L.map Ac.av))) S')=>pA w0 S' 1 c 0 R (by rw [← hL1] at h;exact h)
    replace hL:=ab hL
    replace hL1:=ab hL1
    repeat' first|refine st ?_|(refine ca ?_;first|apply hcj|apply ho)|(refine br ?_ ?_<;>intro hb)|fail
    refine cw HO.out 0 [4,7,8] rfl ss ss ss ?_
    simp only [aP,aG]
    refine gM [1000000,4,7,8] ?_
    simp only [eS,go_sem]
    exact key1.out
   ·have hL1:(sV c).toList=L:=by rw [← hL,if_neg (by omega),if_pos hk]
    have ho:=fun S' R (h:R (.ret (.sval false (L.map Ac.av))) S')=>xY w0 S' c R (by rw [← hL1] at h;exact h)
    replace hL:=ab hL
    replace hL1:=ab hL1
    repeat' first|refine st ?_|(refine ca ?_;first|apply hcj|apply ho)|(refine br ?_ ?_<;>intro hb)|fail
    refine cw HO.out 0 [4,7,8] rfl ss ss ss ?_
    simp only [aP,aG]
    refine gM [1000000,4,7,8] ?_
    simp only [eS,go_sem]
    exact key1.out
   ·have hL1:(qy ⟨0,it,fi⟩).toList=L:=by rw [← hL,if_neg (by omega),if_neg (by omega),if_pos hk]
    have ho:=fun S' R (h:R (.ret (.sval false (L.map Ac.av))) S')=>AC w0 S' ⟨3,c,pv,fi,ps,it,tx⟩ R (by rw [← hL1] at h;exact h)
    simp only [Ev.av] at ho
    replace hL:=ab hL
    replace hL1:=ab hL1
    repeat' first|refine st ?_|(refine ca ?_;first|apply hcj|apply ho)|(refine br ?_ ?_<;>intro hb)|fail
    refine cw HO.out 0 [4,7,8] rfl ss ss ss ?_
    simp only [aP,aG]
    refine gM [1000000,4,7,8] ?_
    simp only [eS,go_sem]
    exact key1.out
   ·have hL1:vp ⟨4,c,pv,fi,ps,it,tx⟩=L:=by rw [← hL,if_neg (by omega),if_neg (by omega),if_neg (by omega),if_pos hk,hk]
    have ho:=fun S' R (h:R (.ret (.sval false (L.map Ac.av))) S')=>wo w0 S' ⟨4,c,pv,fi,ps,it,tx⟩ Hok.out R (by rw [← hL1] at h;exact h)
    simp only [Ev.av] at ho
    replace hL:=ab hL
    replace hL1:=ab hL1
    repeat' first|refine st ?_|(refine ca ?_;first|apply hcj|apply ho)|(refine br ?_ ?_<;>intro hb)|fail
    refine cw HO.out 0 [4,7,8] rfl ss ss ss ?_
    simp only [aP,aG]
    refine gM [1000000,4,7,8] ?_
    simp only [eS,go_sem]
    exact key1.out
   ·have hpa:=fun S'=>IU w0 S' tx Ht.out
    have hL5:(ea tx).toList=L:=by rw [← hL,if_neg (by omega),if_neg (by omega),if_neg (by omega),if_neg (by omega),if_pos hk]
    replace hL:=ab hL
    cases hp:ea tx with
    | none =>
     have HL:=ab (show []=L by rw [← hL5,hp];rfl)
     rw [hp] at hpa
     simp only [sO] at hpa
     clear hL5 hp
     repeat' first|refine st ?_|(refine ca ?_;first|apply hcj|apply hpa)|(refine br ?_ ?_<;>intro hb)|fail
     refine xL (t:=4) ss ?_
     refine cw HO.out 0 [4,7,8] rfl ss ss ss ?_
     simp only [aP,aG]
     refine gM [1000000,4,7,8] ?_
     simp only [eS,go_sem]
     rintro env' ⟨e0,e4,e7,e8⟩
     exact key1.out env' ⟨e0,by rw [e4,← HL.out];rfl,e7,e8⟩
    | some a =>
     have HL:=ab (show [a]=L by rw [← hL5,hp];rfl)
     rw [hp] at hpa
     obtain⟨k1,k2,k3,k4,k5,k6⟩:=a
     simp only [sO,Ac.av] at hpa
     clear hL5 hp
     repeat' first|refine st ?_|(refine ca ?_;first|apply hcj|apply hpa)|(refine br ?_ ?_<;>intro hb)|fail
     refine po (t:=4) (a:=S.length+2) rfl ss ss ?_
     refine cw HO.out 0 [4,7,8] rfl ss ss ss ?_
     simp only [aP,aG]
     refine gM [1000000,4,7,8] ?_
     simp only [eS,go_sem]
     rintro env' ⟨e0,e4,e7,e8⟩
     exact key1.out env' ⟨e0,by rw [e4,← HL.out];rfl,e7,e8⟩
   ·have hL6:[]=L:=by rw [← hL,if_neg (by omega),if_neg (by omega),if_neg (by omega),if_neg (by omega),if_neg (by omega)]
    have HL:=ab hL6
    clear hL6
    replace hL:=ab hL
    repeat' first|refine st ?_|(refine ca ?_;apply hcj)|(refine br ?_ ?_<;>intro hb)|fail
    refine xL (t:=4) ss ?_
    refine cw HO.out 0 [4,7,8] rfl ss ss ss ?_
    simp only [aP,aG]
    refine gM [1000000,4,7,8] ?_
    simp only [eS,go_sem]
    rintro env' ⟨e0,e4,e7,e8⟩
    exact key1.out env' ⟨e0,by rw [e4,← HL.out];rfl,e7,e8⟩
  case hK1 =>
   rintro env ⟨e0,e4,e7,e8⟩
   have hLn:=HLn.out
   clear hck hL Hk Ht Hok
   refine jp (t:=7) (e:=25) (sz:=6) ss (by decide) ?_
   refine cW (fun (j:Nat) env S'=>j≤L.length∧env 1000000=.dfr []∧env 7=.sown S.length ((L.take j).filter e_).length ((L.take j).filter e_).length∧env 4=.sval false (L.map Ac.av)∧env 8=.int .i64 (j:Int) ∧
    S'=S++[.arr 25 6 0 ((L.take j).filter e_).length (((L.take j).filter e_).map Ac.av)]) (fun j=>L.length - j) 0 ?_ ?_
   ·exact⟨bf _,ss,by simp only [aP,List.filter_nil,aL];(simp only [go_sem, *];try rfl),ss,ss,by simp only [aP,List.filter_nil,aq,aL]⟩
   ·clear e0 e4 e7 e8
    rintro j env S' ⟨hj,e0,e7,e4,e8,rfl⟩ IH
    have HI:=ab IH
    clear IH
    have hfl:((L.take j).filter e_).length≤100:=eT (List.length_filter_le _ _) (eT (List.length_take_le' _ _) hLn)
    by_cases hlt:j<L.length
    ·obtain⟨a,hx⟩:∃ a,L[j]? = some a:=⟨_,al hlt⟩
     have h1:decide ((j:Int)<(L.length:Int))=true:=by simpa using hlt
     have hw:ae.wrap ((j:Int)+1)=((j+1:Nat):Int):=by rw [ah _ (by omega)];omega
     have Hsu:=ab (tQ (p:=e_) hx)
     have hc:=fun S'=>HR.out S' a (HB.out a (ax hx))
     generalize (L.take j).filter e_=F at hfl Hsu e7 ⊢
     have hb:(F.length+1) * 56≤140737488355328:=by omega
     have Hlt:=ab hlt
     obtain⟨k1,k2,k3,k4,k5,k6⟩:=a
     have hav:Ac.av ⟨k1,k2,k3,k4,k5,k6⟩=.agg [.int .i64 k1,.int .i64 k2,.int .i64 k3,.int .i64 k4,.int .i64 k5,.str k6]:=rfl
     rw [hav] at hc
     clear hlt hj hfl hLn H HB HR
     cases ha:e_ ⟨k1,k2,k3,k4,k5,k6⟩
     ·rw [ha] at hc
      repeat' first|refine st ?_|(refine ca ?_;apply hc)|(refine br ?_ ?_<;>intro hb)|fail
      refine cw HO.out 1 [4,7,8] rfl ss ss ?_ ?_
      ·exact ss
      simp only [aZ,aP]
      refine HI.out (j+1) _ _ (by have:=Hlt.out;omega) ⟨Hlt.out, ?_, ?_, ?_, ?_, ?_⟩
      ·exact ss
      ·rw [Hsu.out,ha];simp only [cg,if_false,aG];(simp only [go_sem, *];try rfl)
      ·exact ss
      ·exact ss
      ·rw [Hsu.out,ha];simp only [cg,if_false,aG]
     ·rw [ha] at hc
      repeat' first|refine st ?_|(refine ca ?_;apply hc)|(refine br ?_ ?_<;>intro hb)|fail
      refine cw HO.out 1 [4,7,8] rfl ss ss ?_ ?_
      ·exact ss
      simp only [aZ,aP]
      refine HI.out (j+1) _ _ (by have:=Hlt.out;omega) ⟨Hlt.out, ?_, ?_, ?_, ?_, ?_⟩
      ·exact ss
      ·rw [Hsu.out,ha];simp only [if_true,ai,aB,aL,bC];(simp only [go_sem, *];try rfl)
      ·exact ss
      ·exact ss
      ·rw [Hsu.out,ha];simp only [if_true,ai,aB,aL,bC,aY,ap,aq,hav]
    ·have h1:decide ((j:Int)<(L.length:Int))=false:=by simpa using hlt
     have htk:L.take j=L:=dV (by omega)
     have hh:=H.out
     rw [htk] at e7 ⊢
     generalize L.filter e_=F at hh e7 ⊢
     have hle:(F.map Ac.av).length=F.length:=by simp
     clear hlt hj hfl hLn htk HI H HB HR
     repeat' first|refine st ?_|(refine br ?_ ?_<;>intro hb)|fail
     refine fR results32 ?_
     exact hh
theorem Dm(w0:World)(hB:o_ w0)(hAt:kD w0)(S:List aH)(e:Ev)(h1:nQ e.pars)(h2:e.text.length≤8192)(R:Rt)(h:R (.ret (.bool true)) S):aj prog w0 16 [e.av] S R:=by
 have hof:=fun S'=>MG w0 hB.hM hB.hW hB.hQ hB.hP S' e h1 h2 (fun _ _ _=>EF w0 hAt)
 have hro:=fun S'=>KC w0 S' e h2
 have hsm:=fun S'=>zp w0 S' (uP e) (by have:=(AK e).1;omega)
 have hc1:=fun S'=>xy w0 S' e h1
 have hc2:=fun S'=>wn w0 S' e
 generalize uP e=L at *
 generalize (if jE e then (0:Int) else 201)=q at *
 have hbi:∀ i:Int,(i==i)=true:=by simp
 clear hB hAt h1 h2
 obtain⟨k,c,pv,fi,ps,it,tx⟩:=e
 simp only [Ev.av] at hof hro hc1 hc2 ⊢
 refine eN func16 rfl ntmps16 fun hO=>?_
 repeat' first|refine st ?_|(refine ca ?_;first|apply hof|apply hro|apply hsm|apply hc1|apply hc2)|(refine br ?_ ?_<;>intro hb)|refine sd ?_|apply au|(apply aF;(· decide +kernel))|refine bd ?_ ?_|(refine cd ?_;first|apply hof|apply hro|apply hsm|apply hc1|apply hc2)|fail
 refine fR results16 ?_
 exact h
def xS:List AV:=[.str [],.str [32],.str [33],.str [36],.str [35],.str [40],.str [41],.str [42],.str [43],.str [36,32]]
theorem Cf(i:Nat)(h:i<10):∃ it rest,xS.drop i=.str it::rest:=by
 match i,h with
 | 0,_|1,_|2,_|3,_|4,_|5,_|6,_|7,_|8,_|9,_=>exact⟨_,_,rfl⟩
theorem Ga(w0:World)(hB:o_ w0)(hAt:kD w0)(S:List aH)(l:List (List Int))(n:Nat)(hn:n<256)(code:Int)(R:Rt)(h:R (.ret (.bool true)) S):aj prog w0 5 [.sval false (l.map cB),.int .u8 n,.int .i64 code] S R:=by
 have hwk:=Jx w0 hB
 obtain⟨ps,hps,hsp⟩:∃ ps,mf ⟨0,0,0,0,l,[],[]⟩=⟨0,0,0,0,ps,[],[]⟩∧nQ ps:=⟨_,rfl,(wd ⟨0,0,0,0,l,[],[]⟩).1⟩
 have hsh:=fun S'=>Jy w0 S' ⟨0,0,0,0,l,[],[]⟩
 rw [hps] at hsh
 have HA:=ab (fun (S':List aH) (k:Int) (pv fi:Nat) (it:List UInt8)=>Dm w0 hB hAt S' ⟨k,0,pv,fi,ps,it,[]⟩ hsp (by simp))
 have hal:=fun (S':List aH) (k c:Int)=>Dm w0 hB hAt S' ⟨k,c,0,0,[],[],[]⟩ ⟨by simp,by simp⟩ (by simp)
 simp only [Ev.av,aq,GR] at hsh hal
 have H:=ab h
 have HW:=ab hwk
 have HE:=ab hal
 clear h hwk hal hps hsp hB hAt
 obtain⟨q,hq⟩:∃ q,n % 10=q:=⟨_,rfl⟩
 have h10:q<10:=by omega
 obtain⟨it0,rest,hdr⟩:=Cf q h10
 have hdr1:List.drop (q * 1) xS=.str it0::rest:=by rw [Nat.mul_one];exact hdr
 have hq1:(q:Int)<10:=by omega
 have hq2:(q:Int)<((10:Nat):Int):=by omega
 have hrm:Int.tmod (n:Int) 10=(q:Int):=by rw [yW (by omega)];omega
 clear hq hn
 refine eN func5 rfl ntmps5 fun hO=>?_
 have HO:=ab hO
 clear hO
 repeat' first|refine st ?_|(refine ca ?_;apply hsh)|(refine br ?_ ?_<;>intro hb)|fail
 refine cW (fun (p:Nat × Int × Nat × Nat × List UInt8) env S'=>48≤p.1∧p.1≤127∧env 1000000=.dfr []∧env 1=.int .u8 n∧env 2=.int .i64 code∧env 7=.own S.length 0∧env 8=.own (S.length+1) 0∧env 9=.int .i64 (p.1:Int) ∧
  S'=S++[.cells [.int .i64 p.2.1,.int .i64 0,.int .u8 p.2.2.1,.int .u8 p.2.2.2.1,.sval false (ps.map cB),.str p.2.2.2.2,.str []] none,.cells xS none]) (fun p=>127 - p.1) (48,0,0,0,[]) ?_ ?_
 ·exact⟨by simp,by simp,ss,ss,ss,ss,ss,ss,ss⟩
 ·rintro⟨f,k,pv,fi,it⟩ env S' ⟨hf,hf2,e0,e1,e2,e7,e8,e9,rfl⟩ IH
  have HI:=ab IH
  clear IH hsh
  simp only at hf hf2 e9 ⊢
  by_cases hlt:f<127
  ·have h1:decide ((f:Int)<127)=true:=decide_eq_true (by omega)
   have hw:ae.wrap ((f:Int)+1)=((f+1:Nat):Int):=by rw [ah _ (by omega)];omega
   have hu:aX.wrap (f:Int)=(f:Int):=di _ (by omega)
   have a0:=fun S' k it=>HA.out S' k 0 f it
   have a63:=fun S' k it=>HA.out S' k 63 f it
   have a62:=fun S' k it=>HA.out S' k 62 f it
   have a60:=fun S' k it=>HA.out S' k 60 f it
   simp only [Ev.av,GR,bw] at a0 a63 a62 a60
   have Hf:=ab (a6 hf hlt)
   clear hlt hf hf2
   repeat' ((fail_if_success (apply cq 5));first|refine st ?_|(refine ca ?_;first|apply a0|apply a63|apply a62|apply a60)|(refine br ?_ ?_<;>intro hb)|apply cT|apply fZ|fail)
   repeat' first|refine st ?_|(refine br ?_ ?_<;>intro hb)|fail
   refine cw HO.out 2 [1,2,7,8,9] rfl ss ss ss ?_
   simp only [aZ,aP]
   refine HI.out (f+1,4,60,f,[]) _ _ (by have:=Hf.out;simp only;omega) ⟨by have:=Hf.out;simp only;omega,by have:=Hf.out;simp only;omega, ?_, ?_, ?_, ?_, ?_, ?_, ?_⟩
   all_goals (simp only [go_sem, *];try rfl)
  ·have h1:decide ((f:Int)<127)=false:=by simp only [decide_eq_false_iff_not];omega
   have hal:=HE.out
   have hwk:=HW.out
   clear hlt hf hf2 HI HA
   repeat' first|refine st ?_|(refine ca ?_;first|apply hal|apply hwk)|(refine br ?_ ?_<;>intro hb)|fail
   refine fR results5 ?_
   exact H.out
end Go.Proofs.YthdbijpefkapnaaGreatDoor
