/- A part of the proof. -/
import Derived.Test.YthdbijpefkapnaaGreatDoorOfWalk34
import Derived.Test.YthdbijpefkapnaaGreatDoorOfWalk26
set_option linter.all false
set_option maxHeartbeats 40000000
open And renaming intro → a7
open Bool renaming and_eq_true → aq, not_eq_true' → ay
open Go.IntKind renaming i64 → ae
open Go.IntWalk renaming i64_in → ai
open Go.Lib renaming hid → ab
open List renaming all_eq_true → aD, getElem?_eq_getElem → ap, length_append → ah, length_take_le → nl, map_append → aM, map_nil → aj, mem_append → bV, mem_map → aN, mem_of_getElem? → ax, mem_of_mem_take → rh, mem_singleton → a_, take → rg, take_of_length_le → dJ, take_succ_cons → aR, take_zero → aO
open Nat renaming zero_le → bf
namespace Go.Proofs.YthdbijpefkapnaaGreatDoor
open Go Go.Fen Go.Proofs.Tryz
attribute [local irreducible] aX WP ao dS i7 cJ aU cC
set_option maxRecDepth 8000
variable (w0:World) (S:List aH)
theorem Kg(s:List Nat)(hs:s.length≤4096)(hb:∀ b∈s,b<256)(R:Rt)
  (h:R (.ret (.tup [(dj (bp 0) s).1.av,.sval false ((dj (bp 0) s).2.map Ev.av),.int .i64 0])) S):ao prog w0 15 [(bp 0).av,.sval false (s.map By)] S R:=by
 have hmy:=Ke w0
 have hgt:decide ((4096:Int)<(s.length:Int))=false:=κ
 have Hb:=ab hb
 have H:=ab h
 clear hb h
 simp only [bp,Ps.av,aj] at hmy ⊢
 refine eN func15 rfl ntmps15 fun hO=>?_
 refine ε1 hmy ?_
 clear hmy
 have HO:=ab hO
 clear hO
 refine ij (t:=7) 40 7 ss δ ?_
 try simp only [go_sem, *]
 refine cD (fun (p:Nat × Nat) env S'=>p.1≤s.length∧env 1000000=.dfr []∧env 1=.sval false (s.map By)∧env 2=.own S.length 0∧env 4=.own (S.length+1) 0∧env 6=.int .i64 0∧env 7=.sown (S.length+2) p.2 (dj (bp 0) (s.take p.1)).2.length∧env 8=.int .i64 (p.1:Int) ∧
  S'=S++[up (dj (bp 0) (s.take p.1)).1,aH.cells [.int .i64 0,.snil,.int .u8 0,.int .u8 0,.snil,.str [],.str [],.bool false],.arr 40 7 0 p.2 ((dj (bp 0) (s.take p.1)).2.map Ev.av)]) (fun p=>s.length - p.1) (0,0) ?_ ?_
 ·exact⟨bf _,ss,ss,ss,ss,ss,ss,ss,rfl⟩
 ·rintro⟨i,g⟩ env S' ⟨hi,e0,f1,f2,f4,f6,f7,f8,rfl⟩ IH
  have HI:=ab IH
  clear IH
  simp only at hi f7 f8 ⊢
  by_cases hlt:i<s.length
  ·obtain⟨b,hx⟩:∃ b,s[i]? = some b:=⟨_,ap hlt⟩
   have hb:=Hb.out b (ax hx)
   have h1:decide ((i:Int)<(s.length:Int))=true:=by simpa using hlt
   have hw:ae.wrap ((i:Int)+1)=((i+1:Nat):Int):=by rw [ai _ ω];omega
   have hco:By b=.int .u8 b:=rfl
   have hpi:fj (dj (bp 0) (s.take i)).1:=we _ _ (rL 0 δ) fun x hx=>Hb.out x (rh hx)
   have hbd:gi (dj (bp 0) (s.take i)).1:=gi.feed _ _ (gi.beg 0)
   have hsu:=uI (bp 0) hx
   have hle:=lq (s.take i) (bp 0)
   have htk:(s.take i).length≤i:=nl _ _
   have hl2:=lq (s.take (i+1)) (bp 0)
   have htk2:(s.take (i+1)).length≤i+1:=nl _ _
   rw [hsu] at hl2
   generalize dj (bp 0) (s.take i)=y at *
   obtain⟨y1,y2⟩:=y
   simp only at hpi hle hsu hbd hl2 f7
   have r1:=fun S'=>Ma w0 S' y1 hpi hbd b hb
   generalize eP y1 b=z at *
   obtain⟨⟨zs',utf',pv',fn',pars',it',tx',bad'⟩,z2⟩:=z
   simp only [fq,Ps.av] at r1 hsu hl2
   have hb9:(y2.length+z2.length) * 80≤140737488355328:=by rw [ah] at hl2;omega
   have okZ:=Ev.ok z2
   simp only [cI,AV.cells] at okZ
   have Hk:=ab (a7 hlt hsu)
   clear hlt hsu hpi hbd hle htk hl2 htk2 hi H hb
   simp only [up]
   repeat' first|refine st ?_|(refine ca ?_;apply r1)|(refine br ?_ ?_<;>intro hb)|refine sd ?_|refine sx ?_|apply aw|(apply aF;(· decide +kernel))|refine bd ?_ ?_|(refine cd ?_;apply r1)|fail
   all_goals
    refine bX (S0:=S) HO.out 3 [1,2,4,6,7,8] rfl ss ss ss ?_
    simp only [aR,aO]
    refine HI.out (i+1,g+1) _ _ (by have:=Hk.out.1;simp only;omega) ⟨Hk.out.1,ss,ss,ss,ss,ss, ?_,ss, ?_⟩
    ·simp only [Hk.out.2,ah];(simp only [go_sem, *];try rfl)
    ·simp only [Hk.out.2,up,aM]
  ·have h1:decide ((i:Int)<(s.length:Int))=false:=by simpa using hlt
   have hie:i=s.length:=ω
   have hh:=H.out
   rw [dJ ω] at *
   generalize dj (bp 0) s=y at *
   obtain⟨y1,y2⟩:=y
   unfold Ps.av at hh
   simp only at hh f7
   have H2:=ab hh
   clear hlt hi hie HI hh H
   simp only [up]
   refine ε0 ?_
   all_goals refine fR results15 ?_
   all_goals exact H2.out
def rf(e:Ev):Prop:=db e.pars=true∧e.text.length≤512
theorem rf.none{e:Ev}(h1:e.pars=[])(h2:e.text=[]):rf e:=⟨by rw [h1];decide,by rw [h2];decide⟩
theorem lw{p:Ps}{e:Ev}(h:rf e):∀ x∈(gN p e).2,rf x:=by
 intro x hx
 unfold gN at hx
 cases hb:p.bad with
 | true=>rw [hb] at hx;cases hx
 | false=>rw [hb] at hx;rw [a_.1 hx];exact h
theorem Ir(b:Nat):∀ x∈(m4 b).2,rf x:=by
 intro x hx
 unfold m4 at hx
 by_cases h1:b=24∨b=26
 ·rw [if_pos h1] at hx;cases hx
 rw [if_neg h1] at hx
 by_cases h2:b=27
 ·rw [if_pos h2] at hx;cases hx
 rw [if_neg h2] at hx
 by_cases h3:b<32
 ·rw [if_pos h3] at hx;rw [a_.1 hx];exact rf.none rfl rfl
 ·rw [if_neg h3] at hx;cases hx
theorem xR:∀ (l:List Nat) (q:Ps × List Ev),(∀ x∈q.2,rf x)→∀ x∈(l.foldl en q).2,rf x
 | [],_,h=>h
 | c::l,q,h=>xR l _ (by
  intro x hx
  unfold en at hx
  by_cases h1:c<32∨c=127
  ·rw [if_pos h1] at hx
   rcases bV.1 hx with hx|hx
   ·exact h x hx
   ·exact Ir c x hx
  rw [if_neg h1] at hx
  by_cases h2:c<127∨159<c
  ·rw [if_pos h2] at hx
   rcases bV.1 hx with hx|hx
   ·exact h x hx
   ·rw [a_.1 hx];exact rf.none rfl rfl
  ·rw [if_neg h2] at hx;exact h x hx)
theorem BG(p:Ps)(b:Nat):∀ x∈(f_ p b).2,rf x:=xR _ _ (by intro x hx;cases hx)
theorem lm{p:Ps}(b:Nat)(hp:db p.pars=true):∀ x∈(ia p b).2,rf x:=by
 unfold ia
 by_cases h:p.st≤5
 ·rw [if_pos h];exact lw ⟨hp,bf _⟩
 ·rw [if_neg h];intro x hx;cases hx
theorem Et{p:Ps}(b:Nat)(hp:db p.pars=true):∀ x∈(dr p b).2,rf x:=by
 have nil:∀ x∈([]:List Ev),rf x:=fun x hx=>by cases hx
 unfold dr
 split
 ·intro x hx;rw [a_.1 hx];exact rf.none rfl rfl
 ·unfold qp
  repeat' (first|exact nil|exact lw (rf.none rfl rfl)|split)
 ·unfold kY
  repeat' (first|exact nil|exact lw (rf.none rfl rfl)|split)
 ·unfold g7
  repeat' (first|exact nil|exact lm b hp|split)
 ·unfold g7
  repeat' (first|exact nil|exact lm b hp|split)
 ·unfold fU
  repeat' (first|exact nil|exact lm b hp|split)
 ·unfold fU
  repeat' (first|exact nil|exact lm b hp|split)
 ·unfold fW
  repeat' (first|exact nil|exact lm b hp|split)
 ·unfold fW
  repeat' (first|exact nil|exact lm b hp|split)
 ·exact nil
theorem ug{p:Ps}(b:Nat)(hp:fj p):∀ x∈(take1 p b).2,rf x:=by
 have nil:∀ x∈([]:List Ev),rf x:=fun x hx=>by cases hx
 unfold take1 eO
 repeat' (first|exact nil|exact BG _ _|exact lw (e:=mh p) ⟨by show db []=true;decide,hp.text⟩|exact Et b hp.pars|(intro x hx;rw [a_.1 hx];exact rf.none rfl rfl)|split)
theorem C5{p:Ps}(b:Nat)(hp:fj p):∀ x∈(eP p b).2,rf x:=by
 have nil:∀ x∈([]:List Ev),rf x:=fun x hx=>by cases hx
 unfold eP qr
 repeat' (first|exact nil|exact ug b hp|exact ug b (rL 1 δ)|exact lw (e:=mh p) ⟨by show db []=true;decide,hp.text⟩|exact lw (e:=uK p) ⟨hp.pars,hp.text⟩|split)
theorem xV:∀ (s:List Nat) (p:Ps),fj p→(∀ b∈s,b<256)→∀ x∈(dj p s).2,rf x
 | [],p,_,_=>by rw [py];intro x hx;cases hx
 | b::s,p,h,hb=>by
  rw [ki]
  intro x hx
  rcases bV.1 hx with hx|hx
  ·exact C5 b h x hx
  ·exact xV s _ (h.take (hb b χ)) (fun c hc=>hb c (by simp [hc])) x hx
theorem rf.short{e:Ev}(h:rf e):oE e.pars∧e.text.length≤8192:=by
 have:=h.1
 unfold db at this
 simp only [aq,decide_eq_true_eq,ay] at this
 refine⟨⟨ω,fun s hs=>?_⟩,by have:=h.2;omega⟩
 have:=ph this.2.2 s hs
 omega
theorem Rm(w0:World)(hB:pP w0)(hAt:kX w0)(S:List aH)(e:Ev)(s:List Nat)(hb:∀ b∈s,b<256)(R:Rt)(h:R (.ret (.bool true)) S):ao prog w0 4 [e.av,.sval false (s.map By)] S R:=by
 have hwk:=KR w0 hB
 have hsh:=fun S'=>KS w0 S' e
 have hfe:=fun S'=>Kg w0 S' (s.take (min s.length 200)) κ (fun b h=>hb b (rh h))
 obtain⟨L,hL⟩:∃ L,(dj (bp 0) (s.take (min s.length 200))).2=L:=⟨_,rfl⟩
 have hev:∀ x∈L,rf x:=by rw [← hL];exact xV _ _ (rL 0 δ) (fun b h=>hb b (rh h))
 rw [hL] at hfe
 obtain⟨m,hm⟩:∃ m,min s.length 200=m:=⟨_,rfl⟩
 have hmn:(if (200:Int)<(s.length:Int) then 200 else (s.length:Int))=(m:Int):=by rw [← hm];split<;>omega
 have hml:(m:Int)≤(s.length:Int):=ω
 have htk:rg m (s.map By)=(s.take m).map By:=by rw [List.map_take]
 have hall:((s.map By).all fun el=>el.cells.length==1)=true:=by
  rw [aD];intro x hx;obtain⟨y,_,rfl⟩:=aN.1 hx;rfl
 simp only [AV.cells] at hall
 rw [hm] at hfe
 have H:=ab h
 have HW:=ab hwk
 clear h hwk
 simp only [bp,Ps.av,aj] at hfe
 generalize (dj _ (s.take m)).1=p1 at hfe
 simp only [Ev.av] at hsh ⊢
 refine eN func4 rfl ntmps4 fun hO=>?_
 refine ε2 hsh hfe ?_
 have HO:=ab hO
 clear hO
 have HL:=ab (show L.length≤1000 by rw [← hL];have:=lq (s.take m) (bp 0);have h2:(s.take m).length≤m:=nl _ _;rw [hm];omega)
 clear hfe hsh hmn hml htk hall hb hL hm
 have hal:=fun (S':List aH) (x:Ev) (hx:rf x)=>En w0 hB hAt S' x hx.short.1 hx.short.2
 have Hev:=ab hev
 clear hev
 obtain⟨se,hse⟩:∃ se,mJ e=se:=⟨_,rfl⟩
 have hsf:=xe e
 rw [hse] at hsf
 simp only [hse]
 have HS:=ab hsf
 clear hsf hse
 refine cD (fun (i:Nat) env S'=>i≤L.length∧env 1000000=.dfr []∧env 2=.own S.length 0∧env 6=.sval false (L.map Ev.av)∧env 8=.int .i64 (i:Int) ∧
  S'=S++[.cells [.int .i64 se.kind,.int .i64 se.code,.int .u8 se.priv,.int .u8 se.fin,.sval false (se.pars.map ct),.str se.inter,.str se.text] none,up p1]) (fun i=>L.length - i) 0 ?_ ?_
 ·exact⟨bf _,ss,ss,ss,ss,rfl⟩
 ·rintro i env S' ⟨hi,e0,f2,f6,f8,rfl⟩ IH
  have HI:=ab IH
  clear IH
  by_cases hlt:i<L.length
  ·obtain⟨x,hx⟩:∃ x,L[i]? = some x:=⟨_,ap hlt⟩
   have h1:decide ((i:Int)<(L.length:Int))=true:=by simpa using hlt
   have r1:=fun S'=>hal S' x (Hev.out x (ax hx))
   have hw:ae.wrap ((i:Int)+1)=((i+1:Nat):Int):=by have:=HL.out;rw [ai _ ω];omega
   have Hlt:=ab hlt
   clear hlt hi hal
   obtain⟨k,c,pv,fi,ps,it,tx⟩:=x
   have hco:Ev.av ⟨k,c,pv,fi,ps,it,tx⟩=.agg [.int .i64 k,.int .i64 c,.int .u8 pv,.int .u8 fi,.sval false (ps.map ct),.str it,.str tx]:=rfl
   simp only [Ev.av] at r1
   simp only [up]
   refine ε1 r1 ?_
   exact HI.out (i+1) _ _ (by have:=Hlt.out;omega) ⟨Hlt.out,ss,ss,ss,ss,rfl⟩
  ·have h1:decide ((i:Int)<(L.length:Int))=false:=by simpa using hlt
   clear hlt hi HI
   simp only [up]
   refine ε0 ?_
   have hal2:=fun (k:Int) (S':List aH)=>En w0 hB hAt S' ⟨k,se.code,se.priv,se.fin,se.pars,se.inter,se.text⟩ HS.out.1 (by have:=HS.out.2;simp only;omega)
   simp only [Ev.av] at hal2
   clear hal Hev HL hB hAt
   refine cD (fun (k:Nat) env S'=>k≤8∧env 1000000=.dfr []∧env 2=.own S.length 0∧env 9=.int .i64 (k:Int) ∧
    S'=S++[.cells [.int .i64 se.kind,.int .i64 se.code,.int .u8 se.priv,.int .u8 se.fin,.sval false (se.pars.map ct),.str se.inter,.str se.text] none,up p1]) (fun k=>8 - k) 0 ?_ ?_
   ·exact⟨δ,ss,ss,ss,rfl⟩
   ·rintro k env S' ⟨hk,e0,f2,f9,rfl⟩ IH
    have HI:=ab IH
    clear IH
    simp only [up]
    by_cases hk8:k<8
    ·have h1:decide ((k:Int)<8)=true:=τ
     have hw:ae.wrap ((k:Int)+1)=((k+1:Nat):Int):=by rw [ai _ ω];omega
     have r1:=hal2 (k:Int)
     have Hk:=ab hk8
     clear hk hk8 hal2
     refine ε1 r1 ?_
     refine bX HO.out 2 [2,9] rfl ss ss ss ?_
     simp only [aR,aO]
     exact HI.out (k+1) _ _ (by have:=Hk.out;omega) ⟨Hk.out,ss,ss,ss,rfl⟩
    ·have h1:decide ((k:Int)<8)=false:=τ2
     have hwk:=HW.out
     clear hk hk8 hal2 HI
     refine ε1 hwk ?_
     refine fR results4 ?_
     exact H.out
end Go.Proofs.YthdbijpefkapnaaGreatDoor
