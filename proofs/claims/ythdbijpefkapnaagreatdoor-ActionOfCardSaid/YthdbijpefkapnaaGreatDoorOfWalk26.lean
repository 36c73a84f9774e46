/- A part of the proof. -/
import Derived.Test.YthdbijpefkapnaaGreatDoorOfWalk31
import Derived.Test.YthdbijpefkapnaaGreatDoorOfWalk32
import Derived.Test.YthdbijpefkapnaaGreatDoorOfWalk17
set_option linter.all false
set_option maxHeartbeats 40000000
open And renaming intro → a7
open Bool renaming and_eq_true → aq, false_eq_true → aZ
open Go.IntKind renaming i64 → ae
open Go.IntWalk renaming i64_in → ai
open Go.Lib renaming hid → ab
open List renaming append_nil → aG, drop_eq_getElem_cons → qK, drop_of_length_le → jX, getD_cons_succ → cj, getD_cons_zero → bI, getElem?_eq_getElem → ap, length_append → ah, length_cons → aB, length_drop → CE, length_eq_one_iff → qJ, length_nil → aI, length_pos_iff → pV, map_append → aM, map_cons → al, map_nil → aj, mem_cons → bD, mem_of_getElem? → ax, not_mem_nil → gZ, take → rg, take_of_length_le → dJ, take_succ_cons → aR, take_zero → aO
open List.cons renaming injEq → mz
open Nat renaming le_refl → ba, le_trans → fc, reduceAdd → cW, zero_add → bG, zero_le → bf
open Option renaming toList_some → iX
open Option.some renaming inj → bg
namespace Go.Proofs.YthdbijpefkapnaaGreatDoor
open Go Go.Fen Go.Proofs.Tryz
attribute [local irreducible] aX WP ao dS i7 cJ aU cC
set_option maxRecDepth 8000
variable (w0:World) (S:List aH)
theorem DH(s:List Int)(h1:1≤s.length)(h6:s.length≤6)(R:Rt)(h:PR R S (if s.length=1 then iU (max 0 (s.headD 0)) else dD s)):ao prog w0 280 [ct s] S R:=by
 match s,h1,h6 with
 | [a],_,_=>exact DN w0 S a R h
 | [a,b],_,_=>exact DM w0 S a b R h
 | [a,b,c],_,_=>exact DL w0 S a b c R h
 | [a,b,c,d],_,_=>exact DK w0 S a b c d R h
 | [a,b,c,d,e],_,_=>exact DJ w0 S a b c d e R h
 | [a,b,c,d,e,f],_,_=>exact DI w0 S a b c d e f R h
 | _::_::_::_::_::_::_::_,_,h=>simp at h
theorem uc{s:List Int}{r:List (List Int)}{x:Int}{t:List Int}(h:dK (s::r)=x::t):s.length=1∧max 0 (s.headD 0)=x:=by
 match s,h with
 | [],h=>cases h
 | [n],h=>simp only [dK,mz] at h;exact⟨rfl,h.1⟩
 | _::_::_,h=>cases h
theorem CO{s:List Int}{r:List (List Int)}(h:dK (s::r)=[]):s.length≠1:=by
 match s,h with
 | [],_=>simp
 | [n],h=>simp [dK] at h
 | _::_::_,_=>simp
theorem kT{s:List Int}{r:List (List Int)}{vs:List Int}(h:dK (s::r)=vs)(h2:∀ x n g t,vs=x::g::t→bZ x=some n→g≠5∧g≠2):dX (s::r)=(if s.length=1 then iU (max 0 (s.headD 0)) else dD s,1):=by
 unfold dX
 rw [h]
 match vs,h,h2 with
 | [],h,_=>rw [if_neg (CO h)];rfl
 | [x],h,_ =>
  obtain⟨e1,e2⟩:=uc h
  rw [if_pos e1,e2]
  simp only
  cases bZ x<;>rfl
 | x::g::t,h,h2 =>
  obtain⟨e1,e2⟩:=uc h
  rw [if_pos e1,e2]
  cases hw:bZ x with
  | none=>simp only [hw]
  | some n =>
   obtain⟨k5,k2⟩:=h2 x n g t rfl hw
   simp only [hw]
   rw [if_neg k5,if_neg k2]
theorem CN(vs:List Int):vs=[]∨(∃ x,vs=[x])∨(∃ x g t,vs=x::g::t∧bZ x=none)∨(∃ x n g t,vs=x::g::t∧bZ x=some n∧g≠5∧g≠2)∨(∃ x n,vs=[x,5]∧bZ x=some n)∨(∃ x n a t,vs=x::5::a::t∧bZ x=some n) ∨
  (∃ x n t,vs=x::2::t∧bZ x=some n∧t.length<3)∨(∃ x n a b c t,vs=x::2::a::b::c::t∧bZ x=some n):=by
 match vs with
 | []=>simp
 | [x]=>simp
 | x::g::t =>
  cases hw:bZ x with
  | none=>exact .inr (.inr (.inl ⟨x,g,t,rfl,hw⟩))
  | some n =>
   by_cases h5:g=5
   ·subst h5
    match t with
    | []=>exact .inr (.inr (.inr (.inr (.inl ⟨x,n,rfl,hw⟩))))
    | a::t=>exact .inr (.inr (.inr (.inr (.inr (.inl ⟨x,n,a,t,rfl,hw⟩)))))
   ·by_cases h2:g=2
    ·subst h2
     match t with
     | a::b::c::t=>exact .inr (.inr (.inr (.inr (.inr (.inr (.inr ⟨x,n,a,b,c,t,rfl,hw⟩))))))
     | []=>exact .inr (.inr (.inr (.inr (.inr (.inr (.inl ⟨x,n,[],rfl,hw,χ⟩))))))
     | [a]=>exact .inr (.inr (.inr (.inr (.inr (.inr (.inl ⟨x,n,[a],rfl,hw,χ⟩))))))
     | [a,b]=>exact .inr (.inr (.inr (.inr (.inr (.inr (.inl ⟨x,n,[a,b],rfl,hw,χ⟩))))))
    ·exact .inr (.inr (.inr (.inl ⟨x,n,g,t,rfl,hw,h5,h2⟩)))
theorem lh{x n:Int}(h:bZ x=some n):decide ((0:Int)≤n)=true:=by
 unfold bZ at h
 repeat' split at h
 all_goals first|(cases h;rfl)|cases h
theorem Gr(l:List (List Int))(hne:l≠[])(hl:l.length≤100)(hs:∀ s∈l,1≤s.length∧s.length≤6)(R:Rt)(h:FR R S (dX l)):ao prog w0 237 [.sval false (l.map ct)] S R:=by
 obtain⟨s,r,hsr⟩:∃ s r,l=s::r:=by
  match l,hne with
  | s::r,_=>exact⟨s,r,rfl⟩
 have hl0:l[0]? = some s:=by rw [hsr];rfl
 have hs0:=hs s (by rw [hsr];simp)
 have Hal:=ab (fun S' R=>DH w0 S' s hs0.1 hs0.2 R)
 have hvl:=lj l
 have H:=ab h
 have Hsr:=ab hsr
 clear h hs hs0 hne hsr
 refine eN func237 rfl ntmps237 fun hO=>?_
 have HO:=ab hO
 clear hO
 refine ε0 ?_
 refine ij (t:=5) 3 1 ss δ ?_
 try simp only [go_sem, *]
 refine LK (fun x env S'=>x=.exit 0∧env 1000000=.dfr []∧env 0=.sval false (l.map ct)∧env 2=.own S.length 0∧env 5=.sown (S.length+1) (dK l).length (dK l).length∧S'=S++[.cells [.int .i64 0,.int .i64 0,.int .i64 0,.int .i64 0,.int .i64 0,.str []] none,.arr 3 1 0 (dK l).length ((dK l).map ea)]) ?loop ?tail
 case loop =>
  clear hl0 hvl
  refine cD (fun (p:Nat × List Int) env S'=>p.1≤l.length∧dK l=p.2++dK (l.drop p.1)∧p.2.length=p.1∧env 1000000=.dfr []∧env 0=.sval false (l.map ct)∧env 2=.own S.length 0∧env 5=.sown (S.length+1) p.1 p.1∧env 6=.int .i64 (p.1:Int) ∧
   S'=S++[.cells [.int .i64 0,.int .i64 0,.int .i64 0,.int .i64 0,.int .i64 0,.str []] none,.arr 3 1 0 p.1 (p.2.map ea)]) (fun p=>l.length - p.1) (0,[]) ?_ ?_
  ·exact⟨bf _,rfl,rfl,ss,ss,ss,ss,ss,ss⟩
  ·rintro⟨k,vs⟩ env S' ⟨hk,hv,hvl2,e0,f0,f2,f5,f6,rfl⟩ IH
   have HI:=ab IH
   clear IH
   simp only at hk hv hvl2 f5 f6 ⊢
   have hlm:(vs.map ea).length=k:=by simp [hvl2]
   by_cases hlt:k<l.length
   ·obtain⟨x,hx⟩:∃ x,l[k]? = some x:=⟨_,ap hlt⟩
    have hd:l.drop k=x::l.drop (k+1):=by
     rw [qK hlt]
     congr 1
     rw [ap hlt] at hx
     exact bg hx
    have h1:decide ((k:Int)<(l.length:Int))=true:=by simpa using hlt
    by_cases hx1:x.length=1
    ·obtain⟨n,rfl⟩:=qJ.1 hx1
     have hw:ae.wrap ((k:Int)+1)=((k+1:Nat):Int):=by rw [ai _ ω];omega
     have hm:(if n>0 then n else 0)=max 0 n:=by split<;>omega
     have hv2:dK l=(vs++[max 0 n])++dK (l.drop (k+1)):=by rw [hv,hd];simp [dK]
     have hp:ct [n]=.agg [.sval false [.int .i64 n]]:=rfl
     have hb8:(k+1) * 8≤140737488355328:=ω
     generalize max 0 n=q at *
     have Hv:=ab (a7 hv2 (a7 hvl2 hlt))
     clear hk hv hvl2 hlt hd hx1 hv2 hl
     refine ε0 ?_
     refine bX HO.out 2 [0,2,5,6] rfl ss ss ss ?_
     simp only [aR,aO]
     refine HI.out (k+1,vs++[q]) _ _ (by have:=Hv.out.2.2;simp only;omega) ⟨Hv.out.2.2,Hv.out.1,by simp [Hv.out.2.1],ss,ss,ss,ss,ss, ?_⟩
     rw [aM];first|done|rfl
    ·have hvv:dK l=vs:=by rw [hv,hd,n7 _ hx1,aG]
     have hp:ct x=.agg [.sval false (x.map ea)]:=rfl
     have hd1:((x.length:Int)==1)=false:=by simp only [beq_eq_false_iff_ne];omega
     rw [hvv,hvl2]
     clear hk hv hvl2 hlt hd hx1 HI hvv hl
     refine ε0 ?_
     exact⟨rfl,ss,ss,ss,ss,rfl⟩
   ·have h1:decide ((k:Int)<(l.length:Int))=false:=by simpa using hlt
    have hvv:dK l=vs:=by rw [hv,jX ω];simp [dK]
    rw [hvv,hvl2]
    clear hk hv hvl2 hlt HI hvv hl
    refine ε0 ?_
    exact⟨rfl,ss,ss,ss,ss,rfl⟩
 case tail =>
  rintro _ env S' ⟨rfl,e0,f0,f2,f5,rfl⟩
  have hh:=H.out
  have hsr:=Hsr.out
  have hco:=iq w0
  simp only [dI,Ac.av] at hco
  generalize hvs:dK l=vs at *
  rcases CN vs with rfl|⟨x,rfl⟩|⟨x,g,t,rfl,hw⟩|⟨x,n,g,t,rfl,hw,g5,g2⟩|⟨x,n,rfl,hw⟩|⟨x,n,a,t,rfl,hw⟩|⟨x,n,t,rfl,hw,ht⟩|⟨x,n,a,b,c,t,rfl,hw⟩
  ·rw [hsr,kT (vs:=[]) (by rw [← hsr];exact hvs) (by intro _ _ _ _ e;cases e)] at hh
   have hal:=Hal.out
   simp only [aI,aB,al,aj,ea,bG,cW] at f5 hvl ⊢
   clear hvs hsr hvl hl hco
   generalize (if s.length=1 then iU (max 0 (s.headD 0)) else dD s)=oo at hh hal
   cases oo with
   | none =>
    simp only [PR,FR] at hh hal
    refine ε1 hal ?_
    rintro⟨ak,an,am,ack,acn,tx⟩
    simp only [Ac.av,aU,putA]
    refine ε0 ?_
    refine fR results237 ?_
    exact hh ⟨ak,an,am,ack,acn,tx⟩
   | some z =>
    obtain⟨ak,an,am,ack,acn,tx⟩:=z
    simp only [PR,FR,Ac.av] at hh hal
    refine ε1 hal ?_
    refine fR results237 ?_
    exact hh
  ·rw [hsr,kT (vs:=[x]) (by rw [← hsr];exact hvs) (by intro _ _ _ _ e;cases e)] at hh
   have hal:=Hal.out
   simp only [aI,aB,al,aj,ea,bG,cW] at f5 hvl ⊢
   clear hvs hsr hvl hl hco
   generalize (if s.length=1 then iU (max 0 (s.headD 0)) else dD s)=oo at hh hal
   cases oo with
   | none =>
    simp only [PR,FR] at hh hal
    refine ε1 hal ?_
    rintro⟨ak,an,am,ack,acn,tx⟩
    simp only [Ac.av,aU,putA]
    refine ε0 ?_
    refine fR results237 ?_
    exact hh ⟨ak,an,am,ack,acn,tx⟩
   | some z =>
    obtain⟨ak,an,am,ack,acn,tx⟩:=z
    simp only [PR,FR,Ac.av] at hh hal
    refine ε1 hal ?_
    refine fR results237 ?_
    exact hh
  ·rw [hsr,kT (vs:=x::g::t) (by rw [← hsr];exact hvs) (by intro x n g t e e2;cases e;rw [hw] at e2;cases e2)] at hh
   have hwh:=fun S'=>ii w0 S' x
   unfold i_ at hwh
   rw [hw] at hwh
   simp only at hwh
   have p0:(0:Int)<((t.length+1+1:Nat):Int):=ω
   have p1:(1:Int)<((t.length+1+1:Nat):Int):=ω
   have dl:decide ((2:Int)≤((t.length+1+1:Nat):Int))=true:=τ
   clear hw
   have hal:=Hal.out
   simp only [aI,aB,al,aj,ea,bG,cW] at f5 hvl ⊢
   clear hvs hsr hvl hl hco
   generalize (if s.length=1 then iU (max 0 (s.headD 0)) else dD s)=oo at hh hal
   cases oo with
   | none =>
    simp only [PR,FR] at hh hal
    refine ε2 hwh hal ?_
    rintro⟨ak,an,am,ack,acn,tx⟩
    simp only [Ac.av,aU,putA]
    refine ε0 ?_
    refine fR results237 ?_
    exact hh ⟨ak,an,am,ack,acn,tx⟩
   | some z =>
    obtain⟨ak,an,am,ack,acn,tx⟩:=z
    simp only [PR,FR,Ac.av] at hh hal
    refine ε2 hwh hal ?_
    refine fR results237 ?_
    exact hh
  ·rw [hsr,kT (vs:=x::g::t) (by rw [← hsr];exact hvs) (by intro x n g t e e2;cases e;exact⟨g5,g2⟩)] at hh
   have hwh:=fun S'=>ii w0 S' x
   unfold i_ at hwh
   rw [hw] at hwh
   simp only at hwh
   have p0:(0:Int)<((t.length+1+1:Nat):Int):=ω
   have p1:(1:Int)<((t.length+1+1:Nat):Int):=ω
   have dl:decide ((2:Int)≤((t.length+1+1:Nat):Int))=true:=τ
   have hnp:=lh hw
   have d5:(g==5)=false:=by simpa using g5
   have d2:(g==2)=false:=by simpa using g2
   clear hw g5 g2
   have hal:=Hal.out
   simp only [aI,aB,al,aj,ea,bG,cW] at f5 hvl ⊢
   clear hvs hsr hvl hl hco
   generalize (if s.length=1 then iU (max 0 (s.headD 0)) else dD s)=oo at hh hal
   cases oo with
   | none =>
    simp only [PR,FR] at hh hal
    refine Δ2 hwh hal ?_
    rintro⟨ak,an,am,ack,acn,tx⟩
    simp only [Ac.av,aU,putA]
    refine ε0 ?_
    refine fR results237 ?_
    exact hh ⟨ak,an,am,ack,acn,tx⟩
   | some z =>
    obtain⟨ak,an,am,ack,acn,tx⟩:=z
    simp only [PR,FR,Ac.av] at hh hal
    refine Δ2 hwh hal ?_
    refine fR results237 ?_
    exact hh
  ·have hfr:dX l=(none,min 3 l.length):=by unfold dX;rw [hvs];simp only [hw];rfl
   rw [hfr] at hh
   have hwh:=fun S'=>ii w0 S' x
   unfold i_ at hwh
   rw [hw] at hwh
   simp only at hwh
   have hnp:=lh hw
   have hmn:(if (l.length:Int)<3 then (l.length:Int) else 3)=((min 3 l.length:Nat):Int):=by split<;>omega
   simp only [aI,aB,al,aj,ea,bG,cW,FR] at f5 hh ⊢
   clear hfr hvs hw hsr hvl hl hco Hal
   refine Δ1 hwh ?_
   refine fR results237 ?_
   exact hh ⟨0,0,0,0,0,[]⟩
  ·have hfr:dX l=(dP n 5 [a],3):=by unfold dX;rw [hvs];simp only [hw,if_true];rw [if_pos χ];rfl
   rw [hfr] at hh
   have hwh:=fun S'=>ii w0 S' x
   unfold i_ at hwh
   rw [hw] at hwh
   simp only at hwh
   have hnp:=lh hw
   have p0:(0:Int)<((t.length+1+1+1:Nat):Int):=ω
   have p1:(1:Int)<((t.length+1+1+1:Nat):Int):=ω
   have p2:(2:Int)<((t.length+1+1+1:Nat):Int):=ω
   have dl:decide ((2:Int)≤((t.length+1+1+1:Nat):Int))=true:=τ
   have dm:decide ((3:Int)≤((t.length+1+1+1:Nat):Int))=true:=τ
   have hmn:(if (l.length:Int)<3 then (l.length:Int) else 3)=3:=by simp only [aB] at hvl;split<;>omega
   have hwi:=fun S'=>mM w0 S' [a] χ
   have okC:=ea.ok t
   simp only [aI,aB,al,aj,ea,bG,cW] at f5 hwi ⊢
   unfold dP at hh
   clear hfr hvs hw hsr hvl hl Hal
   cases hb:nN [a] with
   | false =>
    rw [hb] at hh hwi
    simp only [if_true,FR] at hh
    clear hb hco
    repeat' first|refine st ?_|(refine ca ?_;first|apply hwh|apply hwi)|(apply df [S.length+2];(· simp only [go_sem, *];try rfl);(· rfl);(· simp only [go_sem, *];try rfl);(· rfl);(iterate 2 (· simp only [go_sem, *];try rfl));first|apply hwh|apply hwi)|(refine br ?_ ?_<;>intro hb)|refine sd ?_|apply aw|(apply aF;(· decide +kernel))|refine bd ?_ ?_|(refine cd ?_;first|apply hwh|apply hwi)|(apply je [S.length+2];(iterate 2 (· simp only [go_sem, *];try rfl));(· rfl);(· simp only [go_sem, *];try rfl);(· rfl);(iterate 2 (· simp only [go_sem, *];try rfl));first|apply hwh|apply hwi)|fail
    refine fR results237 ?_
    exact hh ⟨0,0,0,0,0,[]⟩
   | true =>
    rw [hb] at hh hwi
    rw [if_neg χ,if_pos χ] at hh
    simp only [bI,FR,dI,Ac.av] at hh
    clear hb hmn
    repeat' first|refine st ?_|(refine ca ?_;first|apply hwh|apply hwi|apply hco)|(apply df [S.length+2];(· simp only [go_sem, *];try rfl);(· rfl);(· simp only [go_sem, *];try rfl);(· rfl);(iterate 2 (· simp only [go_sem, *];try rfl));first|apply hwh|apply hwi|apply hco)|(refine br ?_ ?_<;>intro hb)|refine sd ?_|apply aw|(apply aF;(· decide +kernel))|refine bd ?_ ?_|(refine cd ?_;first|apply hwh|apply hwi|apply hco)|(apply je [S.length+2];(iterate 2 (· simp only [go_sem, *];try rfl));(· rfl);(· simp only [go_sem, *];try rfl);(· rfl);(iterate 2 (· simp only [go_sem, *];try rfl));first|apply hwh|apply hwi|apply hco)|fail
    refine fR results237 ?_
    exact hh
  ·have hfr:dX l=(none,min 5 l.length):=by unfold dX;rw [hvs];simp only [hw];rw [if_neg δ,if_pos trivial,if_neg ω]
   rw [hfr] at hh
   have hwh:=fun S'=>ii w0 S' x
   unfold i_ at hwh
   rw [hw] at hwh
   simp only at hwh
   have hnp:=lh hw
   have p0:(0:Int)<((t.length+1+1:Nat):Int):=ω
   have p1:(1:Int)<((t.length+1+1:Nat):Int):=ω
   have dl:decide ((2:Int)≤((t.length+1+1:Nat):Int))=true:=τ
   have dm:decide ((5:Int)≤((t.length+1+1:Nat):Int))=false:=τ2
   have hmn:(if (l.length:Int)<5 then (l.length:Int) else 5)=((min 5 l.length:Nat):Int):=by split<;>omega
   simp only [aI,aB,al,aj,ea,bG,cW,FR] at f5 hh ⊢
   clear hfr hvs hw hsr hvl hl hco Hal ht
   refine Δ1 hwh ?_
   refine fR results237 ?_
   exact hh ⟨0,0,0,0,0,[]⟩
  ·have hfr:dX l=(dP n 2 [a,b,c],5):=by unfold dX;rw [hvs];simp only [hw];rw [if_neg δ,if_pos trivial,if_pos χ];rfl
   rw [hfr] at hh
   have hwh:=fun S'=>ii w0 S' x
   unfold i_ at hwh
   rw [hw] at hwh
   simp only at hwh
   have hnp:=lh hw
   have p0:(0:Int)<((t.length+1+1+1+1+1:Nat):Int):=ω
   have p1:(1:Int)<((t.length+1+1+1+1+1:Nat):Int):=ω
   have p2:(2:Int)<((t.length+1+1+1+1+1:Nat):Int):=ω
   have p3:(3:Int)<((t.length+1+1+1+1+1:Nat):Int):=ω
   have p4:(4:Int)<((t.length+1+1+1+1+1:Nat):Int):=ω
   have dl:decide ((2:Int)≤((t.length+1+1+1+1+1:Nat):Int))=true:=τ
   have dm:decide ((5:Int)≤((t.length+1+1+1+1+1:Nat):Int))=true:=τ
   have hmn:(if (l.length:Int)<5 then (l.length:Int) else 5)=5:=by simp only [aB] at hvl;split<;>omega
   have hwi:=fun S'=>mM w0 S' [a,b,c] χ
   simp only [aI,aB,al,aj,ea,bG,cW] at f5 hwi ⊢
   unfold dP at hh
   clear hfr hvs hw hsr hvl hl Hal hco
   cases hb:nN [a,b,c] with
   | false =>
    rw [hb] at hh hwi
    simp only [if_true,FR] at hh
    clear hb
    repeat' first|refine st ?_|(refine ca ?_;first|apply hwh|apply hwi)|(apply df [S.length+2];(· simp only [go_sem, *];try rfl);(· rfl);(· simp only [go_sem, *];try rfl);(· rfl);(iterate 2 (· simp only [go_sem, *];try rfl));first|apply hwh|apply hwi)|(refine br ?_ ?_<;>intro hb)|refine sd ?_|apply aw|(apply aF;(· decide +kernel))|refine bd ?_ ?_|(refine cd ?_;first|apply hwh|apply hwi)|(apply je [S.length+2];(iterate 2 (· simp only [go_sem, *];try rfl));(· rfl);(· simp only [go_sem, *];try rfl);(· rfl);(iterate 2 (· simp only [go_sem, *];try rfl));first|apply hwh|apply hwi)|fail
    refine fR results237 ?_
    exact hh ⟨0,0,0,0,0,[]⟩
   | true =>
    have hrg:=fun S' n=>DG w0 S' n a b c hb
    rw [hb] at hh hwi
    rw [if_neg χ,if_neg χ,if_pos χ] at hh
    simp only [bI,cj,FR,dI,Ac.av] at hh hrg
    clear hb hmn
    repeat' first|refine st ?_|(refine ca ?_;first|apply hwh|apply hwi|apply hrg)|(apply df [S.length+2];(· simp only [go_sem, *];try rfl);(· rfl);(· simp only [go_sem, *];try rfl);(· rfl);(iterate 2 (· simp only [go_sem, *];try rfl));first|apply hwh|apply hwi|apply hrg)|(refine br ?_ ?_<;>intro hb)|refine sd ?_|apply aw|(apply aF;(· decide +kernel))|refine bd ?_ ?_|(refine cd ?_;first|apply hwh|apply hwi|apply hrg)|(apply je [S.length+2];(iterate 2 (· simp only [go_sem, *];try rfl));(· rfl);(· simp only [go_sem, *];try rfl);(· rfl);(iterate 2 (· simp only [go_sem, *];try rfl));first|apply hwh|apply hwi|apply hrg)|fail
    refine fR results237 ?_
    exact hh
theorem Ka(l:List (List Int))(hok:db l=true)(R:Rt)(h:R (.ret (.tup [.sval false ((kq l).map Ac.av),.int .i64 0])) S):ao prog w0 198 [.sval false (l.map ct)] S R:=by
 obtain⟨hl,hs⟩:=kP hok
 have hck:=fun S'=>o5 w0 S' l
 unfold mQ at hck
 rw [if_pos hok] at hck
 unfold kq at h
 by_cases hne:l=[]
 ·subst hne
  rw [if_pos rfl] at h
  have hpn:=sg w0
  simp only [dt,Ac.av,al,aj] at h hpn hck ⊢
  clear hl hs hok
  exact γR2 hck hpn func198 ntmps198 results198 h
 ·rw [if_neg hne] at h
  have hle:((l.length:Int)==0)=false:=by
   have:=pV.2 hne
   simp only [beq_eq_false_iff_ne];omega
  have H:=ab h
  clear h hok hne
  refine eN func198 rfl ntmps198 fun hO=>?_
  have HO:=ab hO
  clear hO
  refine ε1 hck ?_
  clear hck hle
  refine ij (t:=4) 25 6 ss δ ?_
  try simp only [go_sem, *]
  refine cD (fun (p:List Ac × List (List Int) × Nat) env S'=>p.2.1.length≤p.2.2∧hZ l.length l=p.1++hZ p.2.2 p.2.1∧(p.2.1.length≤100∧∀ s∈p.2.1,1≤s.length∧s.length≤6)∧env 1000000=.dfr []∧env 0=.sval false (p.2.1.map ct)∧env 4=.sown S.length p.1.length p.1.length∧S'=S++[.arr 25 6 0 p.1.length (p.1.map Ac.av)]) (fun p=>p.2.1.length) ([],l,l.length) ?_ ?_
  ·exact⟨ba _,rfl,⟨by simp only;omega,hs⟩,ss,ss,ss,ss⟩
  ·rintro⟨ys,rem,k⟩ env S' ⟨hk,hp,hsz,e0,f0,f4,rfl⟩ IH
   have HI:=ab IH
   clear IH hs
   simp only at hk hp hsz f0 f4 ⊢
   have okY:=Ac.ok ys
   simp only [cI,AV.cells] at okY
   by_cases hne:rem=[]
   ·subst hne
    have hh:=H.out
    rw [hp,show hZ k []=[] by cases k<;>simp [hZ],aG] at hh
    simp only [aj] at f0
    clear hp hsz hk HI hl
    refine ε0 ?_
    refine fR results198 ?_
    exact hh
   ·have hlp:0<rem.length:=pV.2 hne
    have h1:decide ((0:Int)<(rem.length:Int))=true:=τ
    obtain⟨k',rfl⟩:∃ k',k=k'+1:=⟨k - 1,ω⟩
    have hfn:=rR hne
    have hfr:=fun S' R=>Gr w0 S' rem hne hsz.1 hsz.2 R
    have hpp:hZ (k'+1) rem=(dX rem).1.toList++hZ k' (rem.drop (dX rem).2):=by
     show (if rem=[] then [] else _)=_
     rw [if_neg hne]
    rw [hpp] at hp
    rcases hfo:dX rem with⟨o,m⟩
    rw [hfo] at hp hfn hfr
    simp only at hp hfn
    have okP:=ct.all1 rem
    simp only [AV.cells] at okP
    have hmi:(m:Int)≤(rem.length:Int):=ω
    have hdl:(rem.drop m).length<rem.length:=by rw [CE];omega
    have Hd:=ab (show (rem.drop m).length≤k'∧((rem.drop m).length≤100∧∀ s∈rem.drop m,1≤s.length∧s.length≤6) by
     exact⟨ω,ω,fun s hs=>hsz.2 s (List.mem_of_mem_drop hs)⟩)
    have Hdl:=ab hdl
    have Hp:=ab hp
    have hdm:List.drop m (rg rem.length (rem.map ct))=(rem.drop m).map ct:=by
     rw [dJ χ];exact List.map_drop.symm
    have hyl:=so l.length l
    rw [hp] at hyl
    clear hpp hfo hp hk hsz hne hlp hfn hdl H
    cases o with
    | none =>
     simp only [FR] at hfr
     clear hyl hl
     refine ε1 hfr ?_
     rintro⟨ak,an,am,ack,acn,tx⟩
     simp only [Ac.av,aU,putA]
     refine ε0 ?_
     refine bX HO.out 1 [0,4] rfl ss ss ss ?_
     simp only [aR,aO]
     exact HI.out (ys,rem.drop m,k') _ _ Hdl.out ⟨Hd.out.1,by simpa using Hp.out,Hd.out.2,ss,ss,ss,ss⟩
    | some c =>
     obtain⟨ak,an,am,ack,acn,tx⟩:=c
     simp only [FR,Ac.av] at hfr
     have hb:(ys.length+1) * 56≤140737488355328:=by
      simp only [iX,ah,aB,aI] at hyl
      omega
     have hcl:(ys.map Ac.av).length=ys.length:=χ
     clear hyl hl
     refine ε1 hfr ?_
     refine bX HO.out 1 [0,4] rfl ss ss ss ?_
     simp only [aR,aO]
     refine HI.out (ys++[⟨ak,an,am,ack,acn,tx⟩],rem.drop m,k') _ _ Hdl.out ⟨Hd.out.1,by simpa using Hp.out,Hd.out.2,ss,ss,by rw [ah];(simp only [go_sem, *];try rfl), ?_⟩
     rw [ah,aM];first|done|rfl
def wm(e:Ev)(pv:Nat)(it:List UInt8):List Ac:=match oY ⟨pv,it,e.fin⟩ with
 | some q=>jN q e.pars
 | none=>[]
theorem yc{e:Ev}{pv:Nat}{it:List UInt8}(h:(⟨pv,it,e.fin⟩:Wy)∉rj.map (·.1)):wm e pv it=[]:=by
 unfold wm
 rw [Dd h]
theorem sa:rj.map (·.1)=[⟨0,[],71⟩,⟨0,[],96⟩,⟨0,[],100⟩,⟨0,[],73⟩,⟨0,[],90⟩,⟨0,[],64⟩,⟨0,[],80⟩,⟨0,[],88⟩,⟨0,[],76⟩,⟨0,[],77⟩,⟨0,[],98⟩,⟨0,[],74⟩,⟨0,[],75⟩,⟨0,[],103⟩,⟨0,[],110⟩,⟨0,[],65⟩,⟨0,[],66⟩,⟨0,[],67⟩,⟨0,[],68⟩,⟨0,[],69⟩,⟨0,[],70⟩,⟨0,[],83⟩,⟨0,[],84⟩,⟨0,[],72⟩,⟨0,[],102⟩,⟨0,[],108⟩,⟨63,[],108⟩,⟨0,[],104⟩,⟨63,[],104⟩,⟨0,[],99⟩,⟨62,[],99⟩,⟨0,[],114⟩,⟨0,[],115⟩,⟨0,[],117⟩,⟨0,[],109⟩,⟨0,[32],113⟩,⟨0,[33],112⟩,⟨0,[36],112⟩,⟨63,[36],112⟩]:=rfl
theorem JR(fi:Nat)(h1:¬ (fi=71∨fi=96∨fi=100∨fi=73∨fi=90∨fi=64∨fi=80∨fi=88∨fi=76∨fi=77∨fi=98∨fi=74∨fi=75∨fi=103∨fi=110∨fi=65∨fi=66∨fi=67∨fi=68∨fi=69∨fi=70∨fi=83∨fi=84∨fi=72∨fi=102∨fi=114∨fi=115∨fi=117))(h2:¬ (fi=104∨fi=108))(h3:¬ fi=109)(h4:¬ fi=99):(⟨0,[],fi⟩:Wy)∉rj.map (·.1):=by
 rw [sa]
 intro hm
 simp only [bD,Wy.mk.injEq,gZ,or_false,true_and,and_true,reduceCtorEq,and_false,false_and,false_or] at hm
 rcases hm with rfl|rfl|rfl|rfl|rfl|rfl|rfl|rfl|rfl|rfl|rfl|rfl|rfl|rfl|rfl|rfl|rfl|rfl|rfl|rfl|rfl|rfl|rfl|rfl|rfl|rfl|rfl|rfl|rfl|rfl|rfl|rfl
 all_goals first|(apply h1;decide)|(apply h2;decide)|(apply h3;decide)|(apply h4;decide)
theorem NV(v:Int):max 1 v=if v>1 then v else 1:=by
 split<;>omega
theorem Ki(e:Ev)(hok:db e.pars=true)(R:Rt)(h:R (.ret (.sval false ((wm e 0 []).map Ac.av))) S):ao prog w0 127 [e.av,.int .i64 (eg e.pars 0 0),.int .i64 (eg e.pars 1 0)] S R:=by
 have hl:=(kP hok).1
 have ho:=qa w0
 simp only [al,aj,gP,Ac.av] at ho
 have hpn:=fun S'=>Ka w0 S' e.pars hok
 have hmo:=fun S' k bit=>xr w0 S' k bit e.pars ω
 obtain⟨k,c,pv,fi,ps,it,tx⟩:=e
 simp only at hpn hmo hl
 simp only [Ev.av]
 clear hok hl
 by_cases h1:fi=71∨fi=96∨fi=100∨fi=73∨fi=90∨fi=64∨fi=80∨fi=88∨fi=76∨fi=77∨fi=98∨fi=74∨fi=75∨fi=103∨fi=110∨fi=65∨fi=66∨fi=67∨fi=68∨fi=69∨fi=70∨fi=83∨fi=84∨fi=72∨fi=102∨fi=114∨fi=115∨fi=117
 ·clear hpn hmo
  rcases h1 with rfl|rfl|rfl|rfl|rfl|rfl|rfl|rfl|rfl|rfl|rfl|rfl|rfl|rfl|rfl|rfl|rfl|rfl|rfl|rfl|rfl|rfl|rfl|rfl|rfl|rfl|rfl|rfl
  all_goals
   refine γR1 ho func127 ntmps127 results127 ?_
   first|exact h|(rw [show wm _ 0 []=[gP 19 (mn ps) (max 1 (eg ps 1 0))] from rfl,NV] at h;exact h)
 by_cases h2:fi=104∨fi=108
 ·clear hpn ho h1
  rcases h2 with rfl|rfl
  all_goals
   exact γR1 hmo func127 ntmps127 results127 h
 by_cases h3:fi=109
 ·clear hmo ho h1 h2
  subst h3
  have hL:wm ⟨k,c,pv,109,ps,it,tx⟩ 0 []=kq ps:=rfl
  rw [hL] at h
  generalize kq ps=L at *
  exact γR1 hpn func127 ntmps127 results127 h
 clear hpn hmo
 obtain⟨d71,d96,d100,d73,d90,d64,d80,d88,d76,d77,d98,d74,d75,d103,d110,d65,d66,d67,d68,d69,d70,d83,d84,d72,d102,d114,d115,d117,d104,d108,d109⟩:(((fi:Nat):Int)==71)=false∧(((fi:Nat):Int)==96)=false∧(((fi:Nat):Int)==100)=false∧(((fi:Nat):Int)==73)=false∧(((fi:Nat):Int)==90)=false∧(((fi:Nat):Int)==64)=false∧(((fi:Nat):Int)==80)=false∧(((fi:Nat):Int)==88)=false∧(((fi:Nat):Int)==76)=false∧(((fi:Nat):Int)==77)=false∧(((fi:Nat):Int)==98)=false∧(((fi:Nat):Int)==74)=false∧(((fi:Nat):Int)==75)=false∧(((fi:Nat):Int)==103)=false∧(((fi:Nat):Int)==110)=false∧(((fi:Nat):Int)==65)=false∧(((fi:Nat):Int)==66)=false∧(((fi:Nat):Int)==67)=false∧(((fi:Nat):Int)==68)=false∧(((fi:Nat):Int)==69)=false∧(((fi:Nat):Int)==70)=false∧(((fi:Nat):Int)==83)=false∧(((fi:Nat):Int)==84)=false∧(((fi:Nat):Int)==72)=false∧(((fi:Nat):Int)==102)=false∧(((fi:Nat):Int)==114)=false∧(((fi:Nat):Int)==115)=false∧(((fi:Nat):Int)==117)=false∧(((fi:Nat):Int)==104)=false∧(((fi:Nat):Int)==108)=false∧(((fi:Nat):Int)==109)=false:=by
  simp only [beq_eq_false_iff_ne]
  omega
 by_cases h4:fi=99
 ·subst h4
  have hL:wm ⟨k,c,pv,99,ps,it,tx⟩ 0 []=if eg ps 0 0=0 then [gP 42 0 0] else []:=rfl
  rw [hL] at h
  clear h1 h2 h3
  cases hz:(eg ps 0 0==0) with
  | true =>
   rw [if_pos (by simpa using hz)] at h
   exact γR1 ho func127 ntmps127 results127 h
  | false =>
   rw [if_neg (by simpa using hz)] at h
   clear ho
   simp only [aj] at h
   exact γR0 func127 ntmps127 results127 h
 ·rw [yc (e:=⟨k,c,pv,fi,ps,it,tx⟩) (JR fi h1 h2 h3 h4)] at h
  have d99:(((fi:Nat):Int)==99)=false:=by simp only [beq_eq_false_iff_ne];omega
  clear h1 h2 h3 h4 ho
  simp only [aj] at h
  exact γR0 func127 ntmps127 results127 h
theorem DX(p:Nat):p=0∨p=63∨p=62∨((((p:Nat):Int)==0)=false∧(((p:Nat):Int)==63)=false∧(((p:Nat):Int)==62)=false):=by
 simp only [beq_eq_false_iff_ne];omega
theorem Ep(s:List UInt8):s=[]∨s=[32]∨s=[33]∨s=[36]∨((s==[])=false∧(s==[32])=false∧(s==[33])=false∧(s==[36])=false):=by
 simp only [beq_eq_false_iff_ne]
 by_cases h0:s=[]
 ·exact .inl h0
 by_cases h1:s=[32]
 ·exact .inr (.inl h1)
 by_cases h2:s=[33]
 ·exact .inr (.inr (.inl h2))
 by_cases h3:s=[36]
 ·exact .inr (.inr (.inr (.inl h3)))
 exact .inr (.inr (.inr (.inr ⟨h0,h1,h2,h3⟩)))
theorem xq(e:Ev)(hok:db e.pars=true)(R:Rt)(h:R (.ret (.sval false ((wl e).map Ac.av))) S):ao prog w0 69 [e.av] S R:=by
 have hl:=(kP hok).1
 have ho:=qa w0
 simp only [al,aj,gP,Ac.av] at ho
 have hcs:=fun S'=>Ki w0 S' e hok
 have hmo:=fun S' k bit=>xr w0 S' k bit e.pars ω
 have hva:=fun S' i R h=>(li w0 S' e.pars i 0 R h).2
 have hce:wl e=wm e e.priv e.inter:=rfl
 rw [hce] at h
 by_cases hz:e.priv=0∧e.inter=[]
 ·obtain⟨k,c,pv,fi,ps,it,tx⟩:=e
  obtain⟨rfl,rfl⟩:=hz
  simp only [Ev.av] at hcs hva h ⊢
  generalize wm ⟨k,c,0,fi,ps,[],tx⟩ 0 []=L at *
  clear ho hmo hok hl hce
  exact ΓR2 hva hcs func69 ntmps69 results69 h
 clear hcs
 by_cases hk:(⟨e.priv,e.inter,e.fin⟩:Wy)∈rj.map (·.1)
 ·have hk2:(e.priv=63∧e.inter=[]∧e.fin=108)∨(e.priv=63∧e.inter=[]∧e.fin=104)∨(e.priv=62∧e.inter=[]∧e.fin=99)∨(e.priv=0∧e.inter=[32]∧e.fin=113)∨(e.priv=0∧e.inter=[33]∧e.fin=112)∨(e.priv=0∧e.inter=[36]∧e.fin=112)∨(e.priv=63∧e.inter=[36]∧e.fin=112):=by
   rw [sa] at hk
   simp only [bD,Wy.mk.injEq,gZ,or_false] at hk
   rcases hk with hk|hk|hk|hk|hk|hk|hk|hk|hk|hk|hk|hk|hk|hk|hk|hk|hk|hk|hk|hk|hk|hk|hk|hk|hk|hk|hk|hk|hk|hk|hk|hk|hk|hk|hk|hk|hk|hk|hk
   all_goals first|exact .inl hk|exact .inr (.inl hk)|exact .inr (.inr (.inl hk))|exact .inr (.inr (.inr (.inl hk)))|exact .inr (.inr (.inr (.inr (.inl hk))))|exact .inr (.inr (.inr (.inr (.inr (.inl hk)))))|exact .inr (.inr (.inr (.inr (.inr (.inr hk)))))|exact absurd ⟨hk.1,hk.2.1⟩ hz
  obtain⟨k,c,pv,fi,ps,it,tx⟩:=e
  simp only at hmo hva hk2 h
  simp only [Ev.av]
  clear hk hz hok hl hce
  rcases hk2 with⟨rfl,rfl,rfl⟩|⟨rfl,rfl,rfl⟩|⟨rfl,rfl,rfl⟩|⟨rfl,rfl,rfl⟩|⟨rfl,rfl,rfl⟩|⟨rfl,rfl,rfl⟩|⟨rfl,rfl,rfl⟩
  rotate_left 2
  ·have hL:wm ⟨k,c,62,99,ps,[],tx⟩ 62 []=if eg ps 0 0=0 then [gP 42 1 0] else []:=rfl
   rw [hL] at h
   clear hmo
   cases hn:(eg ps 0 0==0) with
   | true =>
    rw [if_pos (by simpa using hn)] at h
    exact γR2 hva ho func69 ntmps69 results69 h
   | false =>
    rw [if_neg (by simpa using hn)] at h
    clear ho
    simp only [aj] at h
    exact γR1 hva func69 ntmps69 results69 h
  all_goals
   exact γR3 hva hmo ho func69 ntmps69 results69 h
 ·rw [yc hk] at h
  rw [sa] at hk
  simp only [bD,Wy.mk.injEq,gZ,or_false] at hk
  simp only [aj] at h
  obtain⟨k,c,pv,fi,ps,it,tx⟩:=e
  simp only at hva hk hz
  simp only [Ev.av]
  clear hok hl hce ho hmo
  rcases DX pv with rfl|rfl|rfl|⟨p0,p1,p2⟩<;>rcases Ep it with rfl|rfl|rfl|rfl|⟨i0,i1,i2,i3⟩
  ·exact absurd ⟨rfl,rfl⟩ hz
  all_goals
   (try have d4:(((fi:Nat):Int)==104)=false:=by (simp only [beq_eq_false_iff_ne];intro e;apply hk;simp;omega))
   (try have d8:(((fi:Nat):Int)==108)=false:=by (simp only [beq_eq_false_iff_ne];intro e;apply hk;simp;omega))
   (try have d9:(((fi:Nat):Int)==99)=false:=by (simp only [beq_eq_false_iff_ne];intro e;apply hk;simp;omega))
   (try have d2:(((fi:Nat):Int)==112)=false:=by (simp only [beq_eq_false_iff_ne];intro e;apply hk;simp;omega))
   (try have d3:(((fi:Nat):Int)==113)=false:=by (simp only [beq_eq_false_iff_ne];intro e;apply hk;simp;omega))
   clear hk hz
   exact γR1 hva func69 ntmps69 results69 h
theorem Mc(e:Ev)(ht:e.text.length≤8192)(R:Rt)(h:R (.ret (.tup [.sval false ((vN e).map Ac.av),.int .i64 (if j7 e then 0 else 201)])) S):ao prog w0 32 [e.av] S R:=by
 have hck:=fun S'=>xo w0 S' e
 unfold vN at h
 cases hok:j7 e with
 | false =>
  rw [hok] at h hck
  simp only [aZ,if_false,aj] at h hck
  unfold Ev.av at hck ⊢
  clear ht hok
  exact γR1 hck func32 ntmps32 results32 h
 | true =>
  have hokr:db e.pars=true:=by unfold j7 at hok;simp only [aq] at hok;exact hok.2
  have hB:=E5 hok
  have hLn:=A2 hok
  rw [hok] at h hck
  simp only [if_true] at h hck
  have HR:=ab (fun S' (a:Ac) (hb:yG a)=>Gm w0 S' a (by have:=hb.2;omega))
  unfold j7 at hok
  simp only [aq,decide_eq_true_eq] at hok
  obtain⟨⟨hk1,hk6⟩,_⟩:=hok
  obtain⟨k,c,pv,fi,ps,it,tx⟩:=e
  obtain⟨L,hL⟩:∃ L,rp ⟨k,c,pv,fi,ps,it,tx⟩=L:=⟨_,rfl⟩
  rw [hL] at h hB hLn
  unfold rp at hL
  simp only at hL hokr ht hk1 hk6
  have H:=ab h
  have HB:=ab hB
  clear h hB
  simp only [Ev.av] at hck ⊢
  refine eN func32 rfl ntmps32 fun hO=>?_
  have HO:=ab hO
  clear hO
  have Hk:=ab (a7 hk1 hk6)
  have Ht:=ab ht
  have HLn:=ab hLn
  have Hok:=ab hokr
  clear hk1 hk6 ht hLn hokr
  refine share ?K1 ?hK1 fun key1=>?main
  case main =>
   replace key1:=ab key1
   rcases(by have:=Hk.out;omega:k=1∨k=2∨k=3∨k=4∨k=5∨k=6) with hk|hk|hk|hk|hk|hk
   all_goals (have hcj:=hck;rw [hk] at hcj)
   ·have hL1:[gP 1 c 0]=L:=by rw [← hL,if_pos hk]
    have ho:=fun S' R (h:R (.ret (.sval false (L.map Ac.av))) S')=>qa w0 S' 1 c 0 R (by rw [← hL1] at h;exact h)
    replace hL:=ab hL
    replace hL1:=ab hL1
    refine ε2 hcj ho ?_
    refine bX HO.out 0 [4,7,8] rfl ss ss ss ?_
    simp only [aO,aG]
    refine g_ [1000000,4,7,8] ?_
    simp only [fb,go_sem]
    exact key1.out
   ·have hL1:(tY c).toList=L:=by rw [← hL,if_neg ω,if_pos hk]
    have ho:=fun S' R (h:R (.ret (.sval false (L.map Ac.av))) S')=>y6 w0 S' c R (by rw [← hL1] at h;exact h)
    replace hL:=ab hL
    replace hL1:=ab hL1
    refine ε2 hcj ho ?_
    refine bX HO.out 0 [4,7,8] rfl ss ss ss ?_
    simp only [aO,aG]
    refine g_ [1000000,4,7,8] ?_
    simp only [fb,go_sem]
    exact key1.out
   ·have hL1:(rl ⟨0,it,fi⟩).toList=L:=by rw [← hL,if_neg ω,if_neg ω,if_pos hk]
    have ho:=fun S' R (h:R (.ret (.sval false (L.map Ac.av))) S')=>BD w0 S' ⟨3,c,pv,fi,ps,it,tx⟩ R (by rw [← hL1] at h;exact h)
    simp only [Ev.av] at ho
    replace hL:=ab hL
    replace hL1:=ab hL1
    refine ε2 hcj ho ?_
    refine bX HO.out 0 [4,7,8] rfl ss ss ss ?_
    simp only [aO,aG]
    refine g_ [1000000,4,7,8] ?_
    simp only [fb,go_sem]
    exact key1.out
   ·have hL1:wl ⟨4,c,pv,fi,ps,it,tx⟩=L:=by rw [← hL,if_neg ω,if_neg ω,if_neg ω,if_pos hk,hk]
    have ho:=fun S' R (h:R (.ret (.sval false (L.map Ac.av))) S')=>xq w0 S' ⟨4,c,pv,fi,ps,it,tx⟩ Hok.out R (by rw [← hL1] at h;exact h)
    simp only [Ev.av] at ho
    replace hL:=ab hL
    replace hL1:=ab hL1
    refine ε2 hcj ho ?_
    refine bX HO.out 0 [4,7,8] rfl ss ss ss ?_
    simp only [aO,aG]
    refine g_ [1000000,4,7,8] ?_
    simp only [fb,go_sem]
    exact key1.out
   ·have hpa:=fun S'=>J6 w0 S' tx Ht.out
    have hL5:(er tx).toList=L:=by rw [← hL,if_neg ω,if_neg ω,if_neg ω,if_neg ω,if_pos hk]
    replace hL:=ab hL
    cases hp:er tx with
    | none =>
     have HL:=ab (show []=L by rw [← hL5,hp];rfl)
     rw [hp] at hpa
     simp only [tS] at hpa
     clear hL5 hp
     refine ε2 hcj hpa ?_
     refine yK (t:=4) ss ?_
     refine bX HO.out 0 [4,7,8] rfl ss ss ss ?_
     simp only [aO,aG]
     refine g_ [1000000,4,7,8] ?_
     simp only [fb,go_sem]
     rintro env' ⟨e0,e4,e7,e8⟩
     exact key1.out env' ⟨e0,by rw [e4,← HL.out];rfl,e7,e8⟩
    | some a =>
     have HL:=ab (show [a]=L by rw [← hL5,hp];rfl)
     rw [hp] at hpa
     obtain⟨k1,k2,k3,k4,k5,k6⟩:=a
     simp only [tS,Ac.av] at hpa
     clear hL5 hp
     refine ε2 hcj hpa ?_
     refine mD (t:=4) (a:=S.length+2) rfl ss ss ?_
     refine bX HO.out 0 [4,7,8] rfl ss ss ss ?_
     simp only [aO,aG]
     refine g_ [1000000,4,7,8] ?_
     simp only [fb,go_sem]
     rintro env' ⟨e0,e4,e7,e8⟩
     exact key1.out env' ⟨e0,by rw [e4,← HL.out];rfl,e7,e8⟩
   ·have hL6:[]=L:=by rw [← hL,if_neg ω,if_neg ω,if_neg ω,if_neg ω,if_neg ω]
    have HL:=ab hL6
    clear hL6
    replace hL:=ab hL
    refine ε1 hcj ?_
    refine yK (t:=4) ss ?_
    refine bX HO.out 0 [4,7,8] rfl ss ss ss ?_
    simp only [aO,aG]
    refine g_ [1000000,4,7,8] ?_
    simp only [fb,go_sem]
    rintro env' ⟨e0,e4,e7,e8⟩
    exact key1.out env' ⟨e0,by rw [e4,← HL.out];rfl,e7,e8⟩
  case hK1 =>
   rintro env ⟨e0,e4,e7,e8⟩
   have hLn:=HLn.out
   clear hck hL Hk Ht Hok
   refine ij (t:=7) (e:=25) (sz:=6) ss δ ?_
   refine cD (fun (j:Nat) env S'=>j≤L.length∧env 1000000=.dfr []∧env 7=.sown S.length ((L.take j).filter fm).length ((L.take j).filter fm).length∧env 4=.sval false (L.map Ac.av)∧env 8=.int .i64 (j:Int) ∧
    S'=S++[.arr 25 6 0 ((L.take j).filter fm).length (((L.take j).filter fm).map Ac.av)]) (fun j=>L.length - j) 0 ?_ ?_
   ·exact⟨bf _,ss,by simp only [aO,List.filter_nil,aI];(simp only [go_sem, *];try rfl),ss,ss,by simp only [aO,List.filter_nil,aj,aI]⟩
   ·clear e0 e4 e7 e8
    rintro j env S' ⟨hj,e0,e7,e4,e8,rfl⟩ IH
    have HI:=ab IH
    clear IH
    have hfl:((L.take j).filter fm).length≤100:=fc (List.length_filter_le _ _) (fc (List.length_take_le' _ _) hLn)
    by_cases hlt:j<L.length
    ·obtain⟨a,hx⟩:∃ a,L[j]? = some a:=⟨_,ap hlt⟩
     have h1:decide ((j:Int)<(L.length:Int))=true:=by simpa using hlt
     have hw:ae.wrap ((j:Int)+1)=((j+1:Nat):Int):=by rw [ai _ ω];omega
     have Hsu:=ab (uG (p:=fm) hx)
     have hc:=fun S'=>HR.out S' a (HB.out a (ax hx))
     generalize (L.take j).filter fm=F at hfl Hsu e7 ⊢
     have hb:(F.length+1) * 56≤140737488355328:=ω
     have Hlt:=ab hlt
     obtain⟨k1,k2,k3,k4,k5,k6⟩:=a
     have hav:Ac.av ⟨k1,k2,k3,k4,k5,k6⟩=.agg [.int .i64 k1,.int .i64 k2,.int .i64 k3,.int .i64 k4,.int .i64 k5,.str k6]:=rfl
     rw [hav] at hc
     clear hlt hj hfl hLn H HB HR
     cases ha:fm ⟨k1,k2,k3,k4,k5,k6⟩
     ·rw [ha] at hc
      refine ε1 hc ?_
      refine bX HO.out 1 [4,7,8] rfl ss ss ?_ ?_
      ·exact ss
      simp only [aR,aO]
      refine HI.out (j+1) _ _ (by have:=Hlt.out;omega) ⟨Hlt.out, ?_, ?_, ?_, ?_, ?_⟩
      ·exact ss
      ·rw [Hsu.out,ha];simp only [aZ,if_false,aG];(simp only [go_sem, *];try rfl)
      ·exact ss
      ·exact ss
      ·rw [Hsu.out,ha];simp only [aZ,if_false,aG]
     ·rw [ha] at hc
      refine ε1 hc ?_
      refine bX HO.out 1 [4,7,8] rfl ss ss ?_ ?_
      ·exact ss
      simp only [aR,aO]
      refine HI.out (j+1) _ _ (by have:=Hlt.out;omega) ⟨Hlt.out, ?_, ?_, ?_, ?_, ?_⟩
      ·exact ss
      ·rw [Hsu.out,ha];simp only [if_true,ah,aB,aI,bG];(simp only [go_sem, *];try rfl)
      ·exact ss
      ·exact ss
      ·rw [Hsu.out,ha];simp only [if_true,ah,aB,aI,bG,aM,al,aj,hav]
    ·have h1:decide ((j:Int)<(L.length:Int))=false:=by simpa using hlt
     have htk:L.take j=L:=dJ ω
     have hh:=H.out
     rw [htk] at e7 ⊢
     generalize L.filter fm=F at hh e7 ⊢
     have hle:(F.map Ac.av).length=F.length:=χ
     clear hlt hj hfl hLn htk HI H HB HR
     refine ε0 ?_
     refine fR results32 ?_
     exact hh
theorem En(w0:World)(hB:pP w0)(hAt:kX w0)(S:List aH)(e:Ev)(h1:oE e.pars)(h2:e.text.length≤8192)(R:Rt)(h:R (.ret (.bool true)) S):ao prog w0 16 [e.av] S R:=by
 have hof:=fun S'=>N7 w0 hB.hM hB.hW hB.hQ hB.hP S' e h1 h2 (fun _ _ _=>FJ w0 hAt)
 have hro:=fun S'=>Mc w0 S' e h2
 have hsm:=fun S'=>Ay w0 S' (vN e) (by have:=(BL e).1;omega)
 have hc1:=fun S'=>yw w0 S' e h1
 have hc2:=fun S'=>xo w0 S' e
 generalize vN e=L at *
 generalize (if j7 e then (0:Int) else 201)=q at *
 have hbi:∀ i:Int,(i==i)=true:=χ
 clear hB hAt h1 h2
 obtain⟨k,c,pv,fi,ps,it,tx⟩:=e
 simp only [Ev.av] at hof hro hc1 hc2 ⊢
 refine eN func16 rfl ntmps16 fun hO=>?_
 repeat' first|refine st ?_|(refine ca ?_;first|apply hof|apply hro|apply hsm|apply hc1|apply hc2)|(refine br ?_ ?_<;>intro hb)|refine sd ?_|apply aw|(apply aF;(· decide +kernel))|refine bd ?_ ?_|(refine cd ?_;first|apply hof|apply hro|apply hsm|apply hc1|apply hc2)|fail
 refine fR results16 ?_
 exact h
end Go.Proofs.YthdbijpefkapnaaGreatDoor
