/- A part of the proof. -/
import Derived.Test.YthdbijpefkapnaaGreatDoorOfWalk22
import Derived.Test.YthdbijpefkapnaaGreatDoorOfWalk20
set_option linter.all false
set_option maxHeartbeats 40000000
open And renaming intro → a7
open Bool renaming false_eq_true → aZ
open Go.IntKind renaming i64 → ae, u8 → a6
open Go.IntWalk renaming i64_in → ai, u8_in → cR
open Go.Lib renaming hid → ab
open List renaming foldl_cons → g9, getElem?_eq_getElem → ap, length_append → ah, length_nil → aI, map_append → aM, map_cons → al, map_nil → aj, mem_of_getElem? → ax, take_add_one → jW, take_of_length_le → dJ, take_succ_cons → aR, take_zero → aO
open Nat renaming zero_le → bf
open UInt8 renaming ofNat → az
namespace Go.Proofs.YthdbijpefkapnaaGreatDoor
open Go Go.Fen Go.Proofs.Tryz
attribute [local irreducible] aX WP ao dS i7 cJ aU cC
set_option maxRecDepth 8000
variable (w0:World) (S:List aH)
theorem vB(n x y z:Int)(a fz g:Nat)(hS:S[a]? = some (.arr 3 1 fz g [.int .i64 x,.int .i64 y,.int .i64 z]))(R:Rt)(h:R (.ret (.bool (n==x||(n==y||n==z)))) S) :
  ao prog w0 56 [.int .i64 n,.sown a g 3] S R:=by
 refine Jb w0 S n [x,y,z] a fz g χ hS R ?_
 rw [show [x,y,z].contains n=(n==x||(n==y||n==z)) by simp [List.contains,List.elem];cases n==x<;>cases n==y<;>cases n==z<;>rfl]
 exact h
def fq(q:Ps × List Ev):AV:=.tup [q.1.av,.sval false (q.2.map Ev.av)]
theorem Mb(b:Nat)(hb:b<32∨b=127)(R:Rt)(h:R (.ret (fq (m4 b))) S):ao prog w0 31 [(bp 0).av,.int .u8 b] S R:=by
 have hbg:=kO w0
 have hh:=vB w0
 have hwb:ae.wrap (b:Int)=(b:Int):=ai _ ω
 have d0:decide (128≤(b:Int))=false:=τ2
 simp only [bp,Ps.av,aj]
 unfold m4 at h
 by_cases h1:b=24∨b=26
 ·rw [if_pos h1] at h
  rcases h1 with rfl|rfl
  all_goals
   clear hb
   exact γR1 hbg func31 ntmps31 results31 h
 rw [if_neg h1] at h
 have d1:((b:Int)==24)=false:=ν
 have d2:((b:Int)==26)=false:=ν
 by_cases h2:b=27
 ·rw [if_pos h2] at h
  subst h2
  clear hb h1
  refine eN func31 rfl ntmps31 fun hO=>?_
  refine ε11 hbg hh ?_
  refine fR results31 ?_
  exact h
 rw [if_neg h2] at h
 have d3:((b:Int)==27)=false:=ν
 by_cases h3:b<32
 ·rw [if_pos h3] at h
  have d4:decide ((b:Int)<32)=true:=τ
  clear hb h1 h2 h3
  refine eN func31 rfl ntmps31 fun hO=>?_
  refine ε11 hbg hh ?_
  refine fR results31 ?_
  exact h
 ·rw [if_neg h3] at h
  have d4:decide ((b:Int)<32)=false:=τ2
  have d5:((b:Int)==127)=true:=by rw [beq_iff_eq];omega
  clear hb h1 h2 h3
  refine eN func31 rfl ntmps31 fun hO=>?_
  refine ε11 hbg hh ?_
  refine fR results31 ?_
  exact h
def up(p:Ps):aH:=.cells [.int .i64 p.st,.sval false (p.utf.map By),.int .u8 p.pv,.int .u8 p.fn,.sval false (p.pars.map ct),.str p.inter,.str p.text,.bool p.bad]
theorem yh:∀ (k:Nat) (cs:List Nat) (q:Ps × List Ev),((cs.take k).foldl en q).2.length≤q.2.length+k
 | 0,_,q=>χ
 | k+1,[],q=>χ
 | k+1,c::cs,q=>by
  have h1:=yh k cs (en q c)
  have h2:=qz q c
  simp only [aR,g9]
  omega
theorem si(p:Ps)(b:Nat)(hb:b<256)(hu:e9 p.utf=true)(hby:∀ x∈p.utf,x<256)(R:Rt)(h:R (.ret (fq (f_ p b))) S):ao prog w0 61 [p.av,.int .u8 b] S R:=by
 have hbg:=kO w0
 have hst:=fun S'=>I6 w0 S' p.utf b hb hu hby
 obtain⟨zs,utf,pv,fn,pars,it,tx,bad⟩:=p
 simp only [Ps.av]
 refine eN func61 rfl ntmps61 fun hO=>?_
 refine ε2 hbg hst ?_
 have Hs:=ab (jc utf b)
 have H:=ab h
 clear h hst hu hby hb
 simp only [f_] at H
 generalize (dN utf b).1=rest at H ⊢
 generalize hcs:(dN utf b).2=cs at H Hs ⊢
 clear hcs
 obtain⟨q0,hq0⟩:∃ q0:Ps × List Ev,q0=({ bp 0 with utf:=rest },[]):=⟨_,rfl⟩
 rw [← hq0] at H
 have hq1:up q0.1=.cells [.int .i64 0,.sval false (rest.map By),.int .u8 0,.int .u8 0,.sval false [],.str [],.str [],.bool false]:=by rw [hq0];rfl
 have hq2:q0.2=[]:=by rw [hq0]
 clear hq0
 refine ij (t:=9) 40 7 ss δ ?_
 try simp only [go_sem, *]
 refine cD (fun (p:Nat × Nat) env S'=>p.1≤cs.length∧env 1000000=.dfr []∧env 4=.own (S.length+1) 0∧env 5=.snil∧env 7=.sval false (cs.map Co)∧env 8=.own (S.length+2) 0∧env 9=.sown (S.length+3) p.2 ((cs.take p.1).foldl en q0).2.length∧env 10=.int .i64 (p.1:Int) ∧
  S'=S++[aH.cells [.int .i64 zs,.sval false (utf.map By),.int .u8 pv,.int .u8 fn,.sval false (pars.map ct),.str it,.str tx,.bool bad],aH.cells [.int .i64 0,.snil,.int .u8 0,.int .u8 0,.snil,.str [],.str [],.bool false],up ((cs.take p.1).foldl en q0).1,.arr 40 7 0 p.2 (((cs.take p.1).foldl en q0).2.map Ev.av)]) (fun p=>cs.length - p.1) (0,0) ?_ ?_
 ·refine⟨bf _,ss,ss,ss,ss,ss, ?_,ss, ?_⟩
  ·simp only [aO,List.foldl_nil,hq2];(simp only [go_sem, *];try rfl)
  ·simp only [aO,List.foldl_nil,hq2,hq1,aj]
 ·rintro⟨k,g⟩ env S' ⟨hk,e0,f4,f5,f7,f8,f9,f10,rfl⟩ IH
  have HI:=ab IH
  clear IH
  simp only at hk f9 f10 ⊢
  by_cases hlt:k<cs.length
  ·obtain⟨c,hx⟩:∃ c,cs[k]? = some c:=⟨_,ap hlt⟩
   have hc:c<2097152:=Hs.out.1 c (ax hx)
   have hsu:(cs.take (k+1)).foldl en q0=en ((cs.take k).foldl en q0) c:=by
    rw [jW,hx,List.foldl_append];rfl
   have hle:((cs.take k).foldl en q0).2.length≤k:=by have:=yh k cs q0;rw [hq2] at this;simpa using this
   have h1:decide ((k:Int)<(cs.length:Int))=true:=by simpa using hlt
   have hw:ae.wrap ((k:Int)+1)=((k+1:Nat):Int):=by have:=Hs.out.2;rw [ai _ ω];omega
   have hco:Co c=.int .i64 c:=rfl
   have hk2:k≤2:=by have:=Hs.out.2;omega
   generalize hy:(cs.take k).foldl en q0=y at *
   obtain⟨y1,y2⟩:=y
   simp only at hle f9
   have hb8:∀ m,m≤1→(y2.length+m) * 80≤140737488355328:=fun m hm=>ω
   obtain⟨e,he⟩:∃ e,e=en (y1,y2) c:=⟨_,rfl⟩
   rw [← he] at hsu
   have Hk:=ab (a7 hlt hsu)
   clear hsu
   unfold en at he
   have hsu:=he
   clear he
   by_cases hc1:c<32∨c=127
   ·have r1:=fun S'=>Mb w0 S' c hc1
    rw [if_pos hc1] at hsu
    have hwc:a6.wrap (c:Int)=(c:Int):=cR _ ω
    have hcl:(m4 c).2.length≤1:=by have:=qz (bp 0,[]) c;unfold en at this;rw [if_pos hc1] at this;simpa using this
    generalize m4 c=z at *
    obtain⟨⟨zs',utf',pv',fn',pars',it',tx',bad'⟩,z2⟩:=z
    simp only [fq,Ps.av] at r1 hsu hcl
    have hb9:=hb8 z2.length hcl
    have okZ:=Ev.ok z2
    simp only [cI,AV.cells] at okZ
    have Hsu:=ab hsu
    clear hlt hk hle hb8 hsu hc hk2 hcl H
    simp only [up]
    by_cases hc2:c<32
    ·have d1:decide ((c:Int)<32)=true:=τ
     clear hc1 hc2
     refine ε2 hbg r1 ?_
     refine bX (S0:=S) hO 4 [4,5,7,8,9,10] rfl ss ss ss ?_
     simp only [aR,aO]
     refine HI.out (k+1,g+1) _ _ (by have:=Hk.out.1;simp only;omega) ⟨Hk.out.1,ss,ss,ss,ss,ss, ?_,ss, ?_⟩
     ·simp only [Hk.out.2,Hsu.out,ah];(simp only [go_sem, *];try rfl)
     ·simp only [Hk.out.2,Hsu.out,up,aM]
    ·have d1:decide ((c:Int)<32)=false:=τ2
     have d2:((c:Int)==127)=true:=by rw [beq_iff_eq];omega
     clear hc1 hc2
     refine ε2 hbg r1 ?_
     refine bX (S0:=S) hO 4 [4,5,7,8,9,10] rfl ss ss ss ?_
     simp only [aR,aO]
     refine HI.out (k+1,g+1) _ _ (by have:=Hk.out.1;simp only;omega) ⟨Hk.out.1,ss,ss,ss,ss,ss, ?_,ss, ?_⟩
     ·simp only [Hk.out.2,Hsu.out,ah];(simp only [go_sem, *];try rfl)
     ·simp only [Hk.out.2,Hsu.out,up,aM]
   ·rw [if_neg hc1] at hsu
    have d1:decide ((c:Int)<32)=false:=τ2
    have d2:((c:Int)==127)=false:=ν
    by_cases hc2:c<127∨159<c
    ·rw [if_pos hc2] at hsu
     have hb9:=hb8 1 δ
     have Hsu:=ab hsu
     clear hlt hk hle hb8 hsu hc hk2 H hc1 hbg
     simp only [up]
     by_cases hc3:c<127
     ·have d3:decide ((c:Int)<127)=true:=τ
      clear hc2 hc3
      repeat' ((fail_if_success (apply dk 60 rfl));first|refine st ?_|(refine br ?_ ?_<;>intro hb)|fail)
      refine mD (t:=59) (a:=S.length) rfl ss ss ?_
      refine ε0 ?_
      refine bX (S0:=S) hO 4 [4,5,7,8,9,10] rfl ss ss ss ?_
      simp only [aR,aO]
      refine HI.out (k+1,g+1) _ _ (by have:=Hk.out.1;simp only;omega) ⟨Hk.out.1,ss,ss,ss,ss,ss, ?_,ss, ?_⟩
      ·simp only [Hk.out.2,Hsu.out,ah];(simp only [go_sem, *];try rfl)
      ·simp only [Hk.out.2,Hsu.out,up,aM,al,aj];rfl
     ·have d3:decide ((c:Int)<127)=false:=τ2
      have d4:decide (159<(c:Int))=true:=τ
      clear hc2 hc3
      repeat' ((fail_if_success (apply dk 60 rfl));first|refine st ?_|(refine br ?_ ?_<;>intro hb)|fail)
      refine mD (t:=59) (a:=S.length) rfl ss ss ?_
      refine ε0 ?_
      refine bX (S0:=S) hO 4 [4,5,7,8,9,10] rfl ss ss ss ?_
      simp only [aR,aO]
      refine HI.out (k+1,g+1) _ _ (by have:=Hk.out.1;simp only;omega) ⟨Hk.out.1,ss,ss,ss,ss,ss, ?_,ss, ?_⟩
      ·simp only [Hk.out.2,Hsu.out,ah];(simp only [go_sem, *];try rfl)
      ·simp only [Hk.out.2,Hsu.out,up,aM,al,aj];rfl
    ·rw [if_neg hc2] at hsu
     have d3:decide ((c:Int)<127)=false:=τ2
     have d4:decide (159<(c:Int))=false:=τ2
     have Hsu:=ab hsu
     clear hlt hk hle hb8 hsu hc hk2 H hc1 hbg hc2
     simp only [up]
     refine ε0 ?_
     refine HI.out (k+1,g) _ _ (by have:=Hk.out.1;simp only;omega) ⟨Hk.out.1,ss,ss,ss,ss,ss, ?_,ss, ?_⟩
     ·simp only [Hk.out.2,Hsu.out];(simp only [go_sem, *];try rfl)
     ·simp only [Hk.out.2,Hsu.out,up]
  ·have h1:decide ((k:Int)<(cs.length:Int))=false:=by simpa using hlt
   have hh:=H.out
   rw [dJ ω] at *
   generalize cs.foldl en q0=y at *
   obtain⟨y1,y2⟩:=y
   simp only at f9
   clear hlt hk HI H hq1 hq2 Hs hbg
   simp only [up]
   refine ε0 ?_
   refine fR results61 ?_
   exact hh
theorem GC(p:Ps)(hs:p.st=0)(b:Nat)(h1:32≤b)(h2:b<127)(R:Rt)(h:R (.ret (fq (dr p b))) S):ao prog w0 65 [p.av,.int .u8 b] S R:=by
 obtain⟨zs,utf,pv,fn,pars,it,tx,bad⟩:=p
 simp only at hs
 subst hs
 have hwb:ae.wrap (b:Int)=(b:Int):=ai _ ω
 simp only [Ps.av]
 have H:=ab h
 clear h h1 h2
 refine eN func65 rfl ntmps65 fun hO=>?_
 repeat' first|refine st ?_|(refine br ?_ ?_<;>intro hb)|fail
 all_goals
  refine fR results65 ?_
  exact H.out
theorem GB(p:Ps)(hs:p.st=1)(hbad:p.bad=false)(b:Nat)(R:Rt)(h:R (.ret (fq (dr p b))) S):ao prog w0 65 [p.av,.int .u8 b] S R:=by
 have he:=fun S'=>DT w0 S' p hbad b
 obtain⟨zs,utf,pv,fn,pars,it,tx,bad⟩:=p
 simp only at hs hbad
 subst hs hbad
 have H:=ab (show R (.ret (fq (qp ⟨1,utf,pv,fn,pars,it,tx,false⟩ b))) S from h)
 clear h
 generalize qp ⟨1,utf,pv,fn,pars,it,tx,false⟩ b=y at he H
 obtain⟨⟨zs',utf',pv',fn',pars',it',tx',bad'⟩,y2⟩:=y
 simp only [Ps.av] at he ⊢
 refine eN func65 rfl ntmps65 fun hO=>?_
 repeat' first|refine st ?_|(refine ca ?_;apply he)|(refine br ?_ ?_<;>intro hb)|fail
 all_goals
  refine fR results65 ?_
  exact H.out
theorem GA(utf:List Nat)(pv fn:Nat)(pars:List (List Int))(it tx:List UInt8)(bad:Bool)(hit:it.length≤2)(b:Nat)(h1:32≤b)(h2:b<127)(R:Rt)(h:R (.ret (fq (dr ⟨2,utf,pv,fn,pars,it,tx,bad⟩ b))) S):ao prog w0 65 [(⟨2,utf,pv,fn,pars,it,tx,bad⟩:Ps).av,.int .u8 b] S R:=by
 simp only [Ps.av]
 have h:R (.ret (fq (kY ⟨2,utf,pv,fn,pars,it,tx,bad⟩ b))) S:=h
 unfold kY at h
 by_cases hb:b<48
 ·rw [if_pos hb] at h
  have g1:decide ((b:Int)≤47)=true:=τ
  have g2:decide (48≤(b:Int))=false:=τ2
  have g3:decide ((b:Int)≤59)=true:=τ
  have g4:decide (60≤(b:Int))=false:=τ2
  have g5:decide ((b:Int)≤63)=true:=τ
  have hsg:=fun S'=>mN w0 S' ((2:Nat):Int) utf pv fn pars it tx bad b hit
  unfold i6 at h
  simp only at h
  by_cases hc:bad=true∨it.length=2
  ·rw [if_pos hc] at h
   simp only [if_pos hc] at hsg
   have H:=ab h
   clear h hc h1 h2 hb hit
   refine eN func65 rfl ntmps65 fun hO=>?_
   repeat' first|refine st ?_|(refine ca ?_;apply hsg)|(refine br ?_ ?_<;>intro hb)|fail
   all_goals
    refine fR results65 ?_
    exact H.out
  ·rw [if_neg hc] at h
   simp only [if_neg hc] at hsg
   have H:=ab h
   clear h hc h1 h2 hb hit
   refine eN func65 rfl ntmps65 fun hO=>?_
   repeat' first|refine st ?_|(refine ca ?_;apply hsg)|(refine br ?_ ?_<;>intro hb)|fail
   all_goals
    refine fR results65 ?_
    exact H.out
 rw [if_neg hb] at h
 have g1:decide ((b:Int)≤47)=false:=τ2
 unfold gN at h
 have ht:=fun S'=>n_ w0 S' ((2:Nat):Int) utf pv fn pars it tx bad (mZ it b)
 simp only [Ev.av,mZ,nX,aj] at ht
 cases bad with
 | true =>
  simp only [if_true,al,aj,Ev.av] at h ht
  have H:=ab h
  clear h h1 h2 hit
  refine eN func65 rfl ntmps65 fun hO=>?_
  repeat' first|refine st ?_|(refine ca ?_;apply ht)|(refine br ?_ ?_<;>intro hb)|fail
  all_goals
   refine fR results65 ?_
   exact H.out
 | false =>
  simp only [aZ,if_false,al,aj,Ev.av] at h ht
  have H:=ab h
  clear h h1 h2 hit
  refine eN func65 rfl ntmps65 fun hO=>?_
  repeat' first|refine st ?_|(refine ca ?_;apply ht)|(refine br ?_ ?_<;>intro hb)|fail
  all_goals
   refine fR results65 ?_
   exact H.out
theorem uh(b:Nat)(h1:48≤b)(h2:b<60):(iZ [] b).2=0:=by
 rw [ip (pre:=[]) (q:=[]) (n:=-1) rfl]
 repeat' split
 all_goals first|rfl|(simp only [aI] at *;omega)
theorem Gz(utf:List Nat)(pv fn:Nat)(pars:List (List Int))(it tx:List UInt8)(bad:Bool)(hit:it.length≤2)(b:Nat)(h1:32≤b)(h2:b<127)(R:Rt)(h:R (.ret (fq (dr ⟨3,utf,pv,fn,pars,it,tx,bad⟩ b))) S):ao prog w0 65 [(⟨3,utf,pv,fn,pars,it,tx,bad⟩:Ps).av,.int .u8 b] S R:=by
 simp only [Ps.av]
 have h:R (.ret (fq (g7 ⟨3,utf,pv,fn,pars,it,tx,bad⟩ b))) S:=h
 unfold g7 at h
 have hbo:=jl b
 by_cases hb:b<48
 ·rw [if_pos hb] at h
  have g1:decide ((b:Int)≤47)=true:=τ
  have g2:decide (48≤(b:Int))=false:=τ2
  have g3:decide ((b:Int)≤59)=true:=τ
  have g4:decide (60≤(b:Int))=false:=τ2
  have g5:decide ((b:Int)≤63)=true:=τ
  have h:R (.ret (fq ({ bp 5 with inter:=[az b] },[]))) S:=h
  have H:=ab h
  clear h h1 h2 hb hit
  refine eN func65 rfl ntmps65 fun hO=>?_
  refine ε0 ?_
  all_goals
   refine fR results65 ?_
   exact H.out
 rw [if_neg hb] at h
 have hb0:=hb
 clear hb
 by_cases hb:b<60
 ·rw [if_pos hb] at h
  have g1:decide ((b:Int)≤47)=false:=τ2
  have g2:decide (48≤(b:Int))=true:=τ
  have g3:decide ((b:Int)≤59)=true:=τ
  have g4:decide (60≤(b:Int))=false:=τ2
  have g5:decide ((b:Int)≤63)=true:=τ
  have hsp:=fun S'=>vC w0 S' [] b ⟨ω,ω⟩ δ
  have h0:=uh b ω ω
  unfold rm at h
  rw [if_neg (by simp only [bp];rw [h0];simp)] at h
  simp only [bp] at h
  obtain⟨y1,y2,hy⟩:∃ y1 y2,iZ [] b=(y1,y2):=⟨_,_,rfl⟩
  rw [hy] at h hsp
  simp only [gH,aj] at h hsp
  have H:=ab h
  clear h h1 h2 hb hit hy h0
  refine eN func65 rfl ntmps65 fun hO=>?_
  refine ε1 hsp ?_
  all_goals
   refine fR results65 ?_
   exact H.out
 rw [if_neg hb] at h
 have hb1:=hb
 clear hb
 by_cases hb:b<64
 ·rw [if_pos hb] at h
  have g1:decide ((b:Int)≤47)=false:=τ2
  have g2:decide (48≤(b:Int))=true:=τ
  have g3:decide ((b:Int)≤59)=false:=τ2
  have g4:decide (60≤(b:Int))=true:=τ
  have g5:decide ((b:Int)≤63)=true:=τ
  have H:=ab h
  clear h h1 h2 hb hb0 hb1 hit
  refine eN func65 rfl ntmps65 fun hO=>?_
  refine ε0 ?_
  all_goals
   refine fR results65 ?_
   exact H.out
 rw [if_neg hb] at h
 have hb2:=hb
 clear hb
 have g1:decide ((b:Int)≤47)=false:=τ2
 have g2:decide (48≤(b:Int))=true:=τ
 have g3:decide ((b:Int)≤59)=false:=τ2
 have g4:decide (60≤(b:Int))=true:=τ
 have g5:decide ((b:Int)≤63)=false:=τ2
 unfold ia at h
 rw [if_pos χ] at h
 unfold gN at h
 have ht:=fun S'=>n_ w0 S' ((3:Nat):Int) utf pv fn pars it tx bad (nX ⟨3,utf,pv,fn,pars,it,tx,bad⟩ b)
 simp only [Ev.av,mZ,nX,aj] at ht
 cases bad with
 | true =>
  simp only [if_true,al,aj,Ev.av] at h ht
  have H:=ab h
  clear h h1 h2 hit
  refine eN func65 rfl ntmps65 fun hO=>?_
  refine ε1 ht ?_
  all_goals
   refine fR results65 ?_
   exact H.out
 | false =>
  simp only [aZ,if_false,al,aj,Ev.av] at h ht
  have H:=ab h
  clear h h1 h2 hit
  refine eN func65 rfl ntmps65 fun hO=>?_
  refine ε1 ht ?_
  all_goals
   refine fR results65 ?_
   exact H.out
theorem Gw(utf:List Nat)(pv fn:Nat)(pars:List (List Int))(it tx:List UInt8)(bad:Bool)(hit:it.length≤2)(b:Nat)(h1:32≤b)(h2:b<127)(R:Rt)(h:R (.ret (fq (dr ⟨8,utf,pv,fn,pars,it,tx,bad⟩ b))) S):ao prog w0 65 [(⟨8,utf,pv,fn,pars,it,tx,bad⟩:Ps).av,.int .u8 b] S R:=by
 simp only [Ps.av]
 have h:R (.ret (fq (g7 ⟨8,utf,pv,fn,pars,it,tx,bad⟩ b))) S:=h
 unfold g7 at h
 have hbo:=jl b
 by_cases hb:b<48
 ·rw [if_pos hb] at h
  have g1:decide ((b:Int)≤47)=true:=τ
  have g2:decide (48≤(b:Int))=false:=τ2
  have g3:decide ((b:Int)≤59)=true:=τ
  have g4:decide (60≤(b:Int))=false:=τ2
  have g5:decide ((b:Int)≤63)=true:=τ
  have h:R (.ret (fq ({ bp 10 with inter:=[az b] },[]))) S:=h
  have H:=ab h
  clear h h1 h2 hb hit
  refine eN func65 rfl ntmps65 fun hO=>?_
  refine ε0 ?_
  all_goals
   refine fR results65 ?_
   exact H.out
 rw [if_neg hb] at h
 have hb0:=hb
 clear hb
 by_cases hb:b<60
 ·rw [if_pos hb] at h
  have g1:decide ((b:Int)≤47)=false:=τ2
  have g2:decide (48≤(b:Int))=true:=τ
  have g3:decide ((b:Int)≤59)=true:=τ
  have g4:decide (60≤(b:Int))=false:=τ2
  have g5:decide ((b:Int)≤63)=true:=τ
  have hsp:=fun S'=>vC w0 S' [] b ⟨ω,ω⟩ δ
  have h0:=uh b ω ω
  unfold rm at h
  rw [if_neg (by simp only [bp];rw [h0];simp)] at h
  simp only [bp] at h
  obtain⟨y1,y2,hy⟩:∃ y1 y2,iZ [] b=(y1,y2):=⟨_,_,rfl⟩
  rw [hy] at h hsp
  simp only [gH,aj] at h hsp
  have H:=ab h
  clear h h1 h2 hb hit hy h0
  refine eN func65 rfl ntmps65 fun hO=>?_
  refine ε1 hsp ?_
  all_goals
   refine fR results65 ?_
   exact H.out
 rw [if_neg hb] at h
 have hb1:=hb
 clear hb
 by_cases hb:b<64
 ·rw [if_pos hb] at h
  have g1:decide ((b:Int)≤47)=false:=τ2
  have g2:decide (48≤(b:Int))=true:=τ
  have g3:decide ((b:Int)≤59)=false:=τ2
  have g4:decide (60≤(b:Int))=true:=τ
  have g5:decide ((b:Int)≤63)=true:=τ
  have H:=ab h
  clear h h1 h2 hb hb0 hb1 hit
  refine eN func65 rfl ntmps65 fun hO=>?_
  refine ε0 ?_
  all_goals
   refine fR results65 ?_
   exact H.out
 rw [if_neg hb] at h
 have hb2:=hb
 clear hb
 have g1:decide ((b:Int)≤47)=false:=τ2
 have g2:decide (48≤(b:Int))=true:=τ
 have g3:decide ((b:Int)≤59)=false:=τ2
 have g4:decide (60≤(b:Int))=true:=τ
 have g5:decide ((b:Int)≤63)=false:=τ2
 unfold ia at h
 rw [if_neg χ] at h
 cases bad with
 | true =>
  simp only [if_true] at h
  have H:=ab h
  clear h h1 h2 hit
  refine eN func65 rfl ntmps65 fun hO=>?_
  refine ε0 ?_
  all_goals
   refine fR results65 ?_
   exact H.out
 | false =>
  simp only [aZ,if_false] at h
  have H:=ab h
  clear h h1 h2 hit
  refine eN func65 rfl ntmps65 fun hO=>?_
  refine ε0 ?_
  all_goals
   refine fR results65 ?_
   exact H.out
end Go.Proofs.YthdbijpefkapnaaGreatDoor
