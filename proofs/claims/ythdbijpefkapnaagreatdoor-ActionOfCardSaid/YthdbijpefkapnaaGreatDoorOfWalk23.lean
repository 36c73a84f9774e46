/- A part of the proof. -/
import Derived.Test.YthdbijpefkapnaaGreatDoorOfWalk33
set_option linter.all false
set_option maxHeartbeats 40000000
open Bool renaming false_eq_true → aZ
open Go.Lib renaming hid → ab
open List renaming map_cons → al, map_nil → aj
namespace Go.Proofs.YthdbijpefkapnaaGreatDoor
open Go Go.Fen Go.Proofs.Tryz
attribute [local irreducible] aX WP ao dS i7 cJ aU cC
set_option maxRecDepth 8000
variable (w0:World) (S:List aH)
theorem Gy(utf:List Nat)(pv fn:Nat)(pars:List (List Int))(it tx:List UInt8)(bad:Bool)(hit:it.length≤2)(hok:db pars=true)(b:Nat)(h1:32≤b)(h2:b<127)(R:Rt)(h:R (.ret (fq (dr ⟨4,utf,pv,fn,pars,it,tx,bad⟩ b))) S):ao prog w0 65 [(⟨4,utf,pv,fn,pars,it,tx,bad⟩:Ps).av,.int .u8 b] S R:=by
 simp only [Ps.av]
 have h:R (.ret (fq (fU ⟨4,utf,pv,fn,pars,it,tx,bad⟩ b))) S:=h
 unfold fU at h
 by_cases hb:b<48
 ·rw [if_pos hb] at h
  have g1:decide ((b:Int)≤47)=true:=τ
  have g2:decide (48≤(b:Int))=false:=τ2
  have g3:decide ((b:Int)≤59)=true:=τ
  have g4:decide (60≤(b:Int))=false:=τ2
  have g5:decide ((b:Int)≤63)=true:=τ
  have hsg:=fun S'=>mN w0 S' ((5:Nat):Int) utf pv fn pars it tx bad b hit
  unfold i6 at h
  simp only at h
  by_cases hc:bad=true∨it.length=2
  ·rw [if_pos hc] at h
   simp only [if_pos hc] at hsg
   have H:=ab h
   clear h hc h1 h2 hb hit
   refine eN func65 rfl ntmps65 fun hO=>?_
   refine ε1 hsg ?_
   all_goals
    refine fR results65 ?_
    exact H.out
  ·rw [if_neg hc] at h
   simp only [if_neg hc] at hsg
   have H:=ab h
   clear h hc h1 h2 hb hit
   refine eN func65 rfl ntmps65 fun hO=>?_
   refine ε1 hsg ?_
   all_goals
    refine fR results65 ?_
    exact H.out
 rw [if_neg hb] at h
 have hb0:=hb
 clear hb
 by_cases hb:b<60
 ·rw [if_pos hb] at h
  have g1:decide ((b:Int)≤47)=false:=τ2
  have g2:decide (48≤(b:Int))=true:=τ
  have g3:decide ((b:Int)≤59)=true:=τ
  have g4:decide (60≤(b:Int))=false:=τ2
  have g5:decide ((b:Int)≤63)=true:=τ
  have hsp:=fun S'=>vC w0 S' pars b ⟨ω,ω⟩ hok
  have hso:=hU w0
  unfold rm at h
  simp only at h
  obtain⟨y1,y2,hy⟩:∃ y1 y2,iZ pars b=(y1,y2):=⟨_,_,rfl⟩
  rw [hy] at h hsp
  simp only [gH] at h hsp
  clear hy
  by_cases hc:y2=0
  ·subst hc
   cases bad with
   | true =>
    rw [if_pos χ] at h
    have H:=ab h
    clear h h1 h2 hb hit hok
    refine eN func65 rfl ntmps65 fun hO=>?_
    refine ε2 hsp hso ?_
    all_goals
     refine fR results65 ?_
     exact H.out
   | false =>
    rw [if_neg χ] at h
    have H:=ab h
    clear h h1 h2 hb hit hok
    refine eN func65 rfl ntmps65 fun hO=>?_
    refine ε2 hsp hso ?_
    all_goals
     refine fR results65 ?_
     exact H.out
  ·rw [if_pos (.inl hc)] at h
   have hc2:(y2 != 0)=true:=by rw [bne_iff_ne];exact hc
   have H:=ab h
   clear h h1 h2 hb hit hok hc
   refine eN func65 rfl ntmps65 fun hO=>?_
   refine ε2 hsp hso ?_
   all_goals
    refine fR results65 ?_
    exact H.out
 rw [if_neg hb] at h
 have hb1:=hb
 clear hb
 by_cases hb:b<64
 ·rw [if_pos hb] at h
  have g1:decide ((b:Int)≤47)=false:=τ2
  have g2:decide (48≤(b:Int))=true:=τ
  have g3:decide ((b:Int)≤59)=false:=τ2
  have g4:decide (60≤(b:Int))=true:=τ
  have g5:decide ((b:Int)≤63)=true:=τ
  have hso:=hU w0
  have H:=ab h
  clear h h1 h2 hb hb0 hb1 hit hok
  refine eN func65 rfl ntmps65 fun hO=>?_
  refine ε1 hso ?_
  all_goals
   refine fR results65 ?_
   exact H.out
 rw [if_neg hb] at h
 have hb2:=hb
 clear hb
 have g1:decide ((b:Int)≤47)=false:=τ2
 have g2:decide (48≤(b:Int))=true:=τ
 have g3:decide ((b:Int)≤59)=false:=τ2
 have g4:decide (60≤(b:Int))=true:=τ
 have g5:decide ((b:Int)≤63)=false:=τ2
 unfold ia at h
 rw [if_pos χ] at h
 unfold gN at h
 have ht:=fun S'=>n_ w0 S' ((4:Nat):Int) utf pv fn pars it tx bad (nX ⟨4,utf,pv,fn,pars,it,tx,bad⟩ b)
 simp only [Ev.av,mZ,nX,aj] at ht
 cases bad with
 | true =>
  simp only [if_true,al,aj,Ev.av] at h ht
  have H:=ab h
  clear h h1 h2 hit
  refine eN func65 rfl ntmps65 fun hO=>?_
  refine ε1 ht ?_
  all_goals
   refine fR results65 ?_
   exact H.out
 | false =>
  simp only [aZ,if_false,al,aj,Ev.av] at h ht
  have H:=ab h
  clear h h1 h2 hit
  refine eN func65 rfl ntmps65 fun hO=>?_
  refine ε1 ht ?_
  all_goals
   refine fR results65 ?_
   exact H.out
theorem Gv(utf:List Nat)(pv fn:Nat)(pars:List (List Int))(it tx:List UInt8)(bad:Bool)(hit:it.length≤2)(hok:db pars=true)(b:Nat)(h1:32≤b)(h2:b<127)(R:Rt)(h:R (.ret (fq (dr ⟨9,utf,pv,fn,pars,it,tx,bad⟩ b))) S):ao prog w0 65 [(⟨9,utf,pv,fn,pars,it,tx,bad⟩:Ps).av,.int .u8 b] S R:=by
 simp only [Ps.av]
 have h:R (.ret (fq (fU ⟨9,utf,pv,fn,pars,it,tx,bad⟩ b))) S:=h
 unfold fU at h
 by_cases hb:b<48
 ·rw [if_pos hb] at h
  have g1:decide ((b:Int)≤47)=true:=τ
  have g2:decide (48≤(b:Int))=false:=τ2
  have g3:decide ((b:Int)≤59)=true:=τ
  have g4:decide (60≤(b:Int))=false:=τ2
  have g5:decide ((b:Int)≤63)=true:=τ
  have hsg:=fun S'=>mN w0 S' ((10:Nat):Int) utf pv fn pars it tx bad b hit
  unfold i6 at h
  simp only at h
  by_cases hc:bad=true∨it.length=2
  ·rw [if_pos hc] at h
   simp only [if_pos hc] at hsg
   have H:=ab h
   clear h hc h1 h2 hb hit
   refine eN func65 rfl ntmps65 fun hO=>?_
   refine ε1 hsg ?_
   all_goals
    refine fR results65 ?_
    exact H.out
  ·rw [if_neg hc] at h
   simp only [if_neg hc] at hsg
   have H:=ab h
   clear h hc h1 h2 hb hit
   refine eN func65 rfl ntmps65 fun hO=>?_
   refine ε1 hsg ?_
   all_goals
    refine fR results65 ?_
    exact H.out
 rw [if_neg hb] at h
 have hb0:=hb
 clear hb
 by_cases hb:b<60
 ·rw [if_pos hb] at h
  have g1:decide ((b:Int)≤47)=false:=τ2
  have g2:decide (48≤(b:Int))=true:=τ
  have g3:decide ((b:Int)≤59)=true:=τ
  have g4:decide (60≤(b:Int))=false:=τ2
  have g5:decide ((b:Int)≤63)=true:=τ
  have hsp:=fun S'=>vC w0 S' pars b ⟨ω,ω⟩ hok
  have hso:=hU w0
  unfold rm at h
  simp only at h
  obtain⟨y1,y2,hy⟩:∃ y1 y2,iZ pars b=(y1,y2):=⟨_,_,rfl⟩
  rw [hy] at h hsp
  simp only [gH] at h hsp
  clear hy
  by_cases hc:y2=0
  ·subst hc
   cases bad with
   | true =>
    rw [if_pos χ] at h
    have H:=ab h
    clear h h1 h2 hb hit hok
    refine eN func65 rfl ntmps65 fun hO=>?_
    refine ε2 hsp hso ?_
    all_goals
     refine fR results65 ?_
     exact H.out
   | false =>
    rw [if_neg χ] at h
    have H:=ab h
    clear h h1 h2 hb hit hok
    refine eN func65 rfl ntmps65 fun hO=>?_
    refine ε2 hsp hso ?_
    all_goals
     refine fR results65 ?_
     exact H.out
  ·rw [if_pos (.inl hc)] at h
   have hc2:(y2 != 0)=true:=by rw [bne_iff_ne];exact hc
   have H:=ab h
   clear h h1 h2 hb hit hok hc
   refine eN func65 rfl ntmps65 fun hO=>?_
   refine ε2 hsp hso ?_
   all_goals
    refine fR results65 ?_
    exact H.out
 rw [if_neg hb] at h
 have hb1:=hb
 clear hb
 by_cases hb:b<64
 ·rw [if_pos hb] at h
  have g1:decide ((b:Int)≤47)=false:=τ2
  have g2:decide (48≤(b:Int))=true:=τ
  have g3:decide ((b:Int)≤59)=false:=τ2
  have g4:decide (60≤(b:Int))=true:=τ
  have g5:decide ((b:Int)≤63)=true:=τ
  have hso:=hU w0
  have H:=ab h
  clear h h1 h2 hb hb0 hb1 hit hok
  refine eN func65 rfl ntmps65 fun hO=>?_
  refine ε1 hso ?_
  all_goals
   refine fR results65 ?_
   exact H.out
 rw [if_neg hb] at h
 have hb2:=hb
 clear hb
 have g1:decide ((b:Int)≤47)=false:=τ2
 have g2:decide (48≤(b:Int))=true:=τ
 have g3:decide ((b:Int)≤59)=false:=τ2
 have g4:decide (60≤(b:Int))=true:=τ
 have g5:decide ((b:Int)≤63)=false:=τ2
 unfold ia at h
 rw [if_neg χ] at h
 cases bad with
 | true =>
  simp only [if_true] at h
  have H:=ab h
  clear h h1 h2 hit
  refine eN func65 rfl ntmps65 fun hO=>?_
  refine ε0 ?_
  all_goals
   refine fR results65 ?_
   exact H.out
 | false =>
  simp only [aZ,if_false] at h
  have H:=ab h
  clear h h1 h2 hit
  refine eN func65 rfl ntmps65 fun hO=>?_
  refine ε0 ?_
  all_goals
   refine fR results65 ?_
   exact H.out
theorem Gx(utf:List Nat)(pv fn:Nat)(pars:List (List Int))(it tx:List UInt8)(bad:Bool)(hit:it.length≤2)(b:Nat)(h1:32≤b)(h2:b<127)(R:Rt)(h:R (.ret (fq (dr ⟨5,utf,pv,fn,pars,it,tx,bad⟩ b))) S):ao prog w0 65 [(⟨5,utf,pv,fn,pars,it,tx,bad⟩:Ps).av,.int .u8 b] S R:=by
 simp only [Ps.av]
 have h:R (.ret (fq (fW ⟨5,utf,pv,fn,pars,it,tx,bad⟩ b))) S:=h
 unfold fW at h
 by_cases hb:b<48
 ·rw [if_pos hb] at h
  have g1:decide ((b:Int)≤47)=true:=τ
  have g2:decide (48≤(b:Int))=false:=τ2
  have g3:decide ((b:Int)≤59)=true:=τ
  have g4:decide (60≤(b:Int))=false:=τ2
  have g5:decide ((b:Int)≤63)=true:=τ
  have hsg:=fun S'=>mN w0 S' ((5:Nat):Int) utf pv fn pars it tx bad b hit
  unfold i6 at h
  simp only at h
  by_cases hc:bad=true∨it.length=2
  ·rw [if_pos hc] at h
   simp only [if_pos hc] at hsg
   have H:=ab h
   clear h hc h1 h2 hb hit
   refine eN func65 rfl ntmps65 fun hO=>?_
   refine ε1 hsg ?_
   all_goals
    refine fR results65 ?_
    exact H.out
  ·rw [if_neg hc] at h
   simp only [if_neg hc] at hsg
   have H:=ab h
   clear h hc h1 h2 hb hit
   refine eN func65 rfl ntmps65 fun hO=>?_
   refine ε1 hsg ?_
   all_goals
    refine fR results65 ?_
    exact H.out
 rw [if_neg hb] at h
 have hb0:=hb
 clear hb
 by_cases hb:b<64
 ·rw [if_pos hb] at h
  have hso:=hU w0
  by_cases hq:b<60
  ·have g1:decide ((b:Int)≤47)=false:=τ2
   have g2:decide (48≤(b:Int))=true:=τ
   have g3:decide ((b:Int)≤59)=true:=τ
   have g4:decide (60≤(b:Int))=false:=τ2
   have g5:decide ((b:Int)≤63)=true:=τ
   have H:=ab h
   clear h h1 h2 hb hb0 hit hq
   refine eN func65 rfl ntmps65 fun hO=>?_
   refine ε1 hso ?_
   all_goals
    refine fR results65 ?_
    exact H.out
  ·have g1:decide ((b:Int)≤47)=false:=τ2
   have g2:decide (48≤(b:Int))=true:=τ
   have g3:decide ((b:Int)≤59)=false:=τ2
   have g4:decide (60≤(b:Int))=true:=τ
   have g5:decide ((b:Int)≤63)=true:=τ
   have H:=ab h
   clear h h1 h2 hb hb0 hit hq
   refine eN func65 rfl ntmps65 fun hO=>?_
   refine ε1 hso ?_
   all_goals
    refine fR results65 ?_
    exact H.out
 rw [if_neg hb] at h
 have hb2:=hb
 clear hb
 have g1:decide ((b:Int)≤47)=false:=τ2
 have g2:decide (48≤(b:Int))=true:=τ
 have g3:decide ((b:Int)≤59)=false:=τ2
 have g4:decide (60≤(b:Int))=true:=τ
 have g5:decide ((b:Int)≤63)=false:=τ2
 unfold ia at h
 rw [if_pos χ] at h
 unfold gN at h
 have ht:=fun S'=>n_ w0 S' ((5:Nat):Int) utf pv fn pars it tx bad (nX ⟨5,utf,pv,fn,pars,it,tx,bad⟩ b)
 simp only [Ev.av,mZ,nX,aj] at ht
 cases bad with
 | true =>
  simp only [if_true,al,aj,Ev.av] at h ht
  have H:=ab h
  clear h h1 h2 hit
  refine eN func65 rfl ntmps65 fun hO=>?_
  refine ε1 ht ?_
  all_goals
   refine fR results65 ?_
   exact H.out
 | false =>
  simp only [aZ,if_false,al,aj,Ev.av] at h ht
  have H:=ab h
  clear h h1 h2 hit
  refine eN func65 rfl ntmps65 fun hO=>?_
  refine ε1 ht ?_
  all_goals
   refine fR results65 ?_
   exact H.out
theorem DR(utf:List Nat)(pv fn:Nat)(pars:List (List Int))(it tx:List UInt8)(bad:Bool)(hit:it.length≤2)(b:Nat)(h1:32≤b)(h2:b<127)(R:Rt)(h:R (.ret (fq (dr ⟨10,utf,pv,fn,pars,it,tx,bad⟩ b))) S):ao prog w0 65 [(⟨10,utf,pv,fn,pars,it,tx,bad⟩:Ps).av,.int .u8 b] S R:=by
 simp only [Ps.av]
 have h:R (.ret (fq (fW ⟨10,utf,pv,fn,pars,it,tx,bad⟩ b))) S:=h
 unfold fW at h
 by_cases hb:b<48
 ·rw [if_pos hb] at h
  have g1:decide ((b:Int)≤47)=true:=τ
  have g2:decide (48≤(b:Int))=false:=τ2
  have g3:decide ((b:Int)≤59)=true:=τ
  have g4:decide (60≤(b:Int))=false:=τ2
  have g5:decide ((b:Int)≤63)=true:=τ
  have hsg:=fun S'=>mN w0 S' ((10:Nat):Int) utf pv fn pars it tx bad b hit
  unfold i6 at h
  simp only at h
  by_cases hc:bad=true∨it.length=2
  ·rw [if_pos hc] at h
   simp only [if_pos hc] at hsg
   have H:=ab h
   clear h hc h1 h2 hb hit
   refine eN func65 rfl ntmps65 fun hO=>?_
   refine ε1 hsg ?_
   all_goals
    refine fR results65 ?_
    exact H.out
  ·rw [if_neg hc] at h
   simp only [if_neg hc] at hsg
   have H:=ab h
   clear h hc h1 h2 hb hit
   refine eN func65 rfl ntmps65 fun hO=>?_
   refine ε1 hsg ?_
   all_goals
    refine fR results65 ?_
    exact H.out
 rw [if_neg hb] at h
 have hb0:=hb
 clear hb
 by_cases hb:b<64
 ·rw [if_pos hb] at h
  have hso:=hU w0
  by_cases hq:b<60
  ·have g1:decide ((b:Int)≤47)=false:=τ2
   have g2:decide (48≤(b:Int))=true:=τ
   have g3:decide ((b:Int)≤59)=true:=τ
   have g4:decide (60≤(b:Int))=false:=τ2
   have g5:decide ((b:Int)≤63)=true:=τ
   have H:=ab h
   clear h h1 h2 hb hb0 hit hq
   refine eN func65 rfl ntmps65 fun hO=>?_
   refine ε1 hso ?_
   all_goals
    refine fR results65 ?_
    exact H.out
  ·have g1:decide ((b:Int)≤47)=false:=τ2
   have g2:decide (48≤(b:Int))=true:=τ
   have g3:decide ((b:Int)≤59)=false:=τ2
   have g4:decide (60≤(b:Int))=true:=τ
   have g5:decide ((b:Int)≤63)=true:=τ
   have H:=ab h
   clear h h1 h2 hb hb0 hit hq
   refine eN func65 rfl ntmps65 fun hO=>?_
   refine ε1 hso ?_
   all_goals
    refine fR results65 ?_
    exact H.out
 rw [if_neg hb] at h
 have hb2:=hb
 clear hb
 have g1:decide ((b:Int)≤47)=false:=τ2
 have g2:decide (48≤(b:Int))=true:=τ
 have g3:decide ((b:Int)≤59)=false:=τ2
 have g4:decide (60≤(b:Int))=true:=τ
 have g5:decide ((b:Int)≤63)=false:=τ2
 unfold ia at h
 rw [if_neg χ] at h
 cases bad with
 | true =>
  simp only [if_true] at h
  have H:=ab h
  clear h h1 h2 hit
  refine eN func65 rfl ntmps65 fun hO=>?_
  refine ε0 ?_
  all_goals
   refine fR results65 ?_
   exact H.out
 | false =>
  simp only [aZ,if_false] at h
  have H:=ab h
  clear h h1 h2 hit
  refine eN func65 rfl ntmps65 fun hO=>?_
  refine ε0 ?_
  all_goals
   refine fR results65 ?_
   exact H.out
theorem yZ(p:Ps)(hp:fj p)(hs:p.st≤5∨8≤p.st∧p.st≤10)(hbd:p.bad=true→2≤p.st)(b:Nat)(h1:32≤b)(h2:b<127)(R:Rt)(h:R (.ret (fq (dr p b))) S):ao prog w0 65 [p.av,.int .u8 b] S R:=by
 obtain⟨zs,utf,pv,fn,pars,it,tx,bad⟩:=p
 have hit:=hp.inter
 have hok:=hp.pars
 simp only at hs hit hok hbd
 obtain rfl|rfl|rfl|rfl|rfl|rfl|rfl|rfl|rfl:zs=0∨zs=1∨zs=2∨zs=3∨zs=4∨zs=5∨zs=8∨zs=9∨zs=10:=ω
 ·exact GC w0 S _ rfl b h1 h2 R h
 ·exact GB w0 S _ rfl (by cases bad with
   | false=>rfl
   | true=>exact absurd (hbd rfl) δ) b R h
 ·exact GA w0 S utf pv fn pars it tx bad hit b h1 h2 R h
 ·exact Gz w0 S utf pv fn pars it tx bad hit b h1 h2 R h
 ·exact Gy w0 S utf pv fn pars it tx bad hit hok b h1 h2 R h
 ·exact Gx w0 S utf pv fn pars it tx bad hit b h1 h2 R h
 ·exact Gw w0 S utf pv fn pars it tx bad hit b h1 h2 R h
 ·exact Gv w0 S utf pv fn pars it tx bad hit hok b h1 h2 R h
 ·exact DR w0 S utf pv fn pars it tx bad hit b h1 h2 R h
theorem BC(utf:List Nat)(pv fn:Nat)(pars:List (List Int))(it tx:List UInt8)(bad:Bool)(htx:tx.length≤512)(b:Nat)(R:Rt)(h:R (.ret (fq (eO ⟨6,utf,pv,fn,pars,it,tx,bad⟩ b))) S):ao prog w0 64 [(⟨6,utf,pv,fn,pars,it,tx,bad⟩:Ps).av,.int .u8 b] S R:=by
 simp only [Ps.av]
 unfold eO at h
 simp only at h
 have hso:=hU w0
 have hbo:=jl b
 by_cases h7:b=7
 ·subst h7
  rw [if_pos χ] at h
  unfold gN at h
  have ht:=fun S'=>n_ w0 S' ((6:Nat):Int) utf pv fn pars it tx bad (mh ⟨6,utf,pv,fn,pars,it,tx,bad⟩)
  simp only [Ev.av,mh,aj] at ht
  cases bad with
  | true =>
   simp only [if_true,al,aj,Ev.av] at h ht
   have H:=ab h
   clear h htx hso hbo
   refine eN func64 rfl ntmps64 fun hO=>?_
   refine ε1 ht ?_
   all_goals
    refine fR results64 ?_
    exact H.out
  | false =>
   simp only [aZ,if_false,al,aj,Ev.av] at h ht
   have H:=ab h
   clear h htx hso hbo
   refine eN func64 rfl ntmps64 fun hO=>?_
   refine ε1 ht ?_
   all_goals
    refine fR results64 ?_
    exact H.out
 rw [if_neg (by simp [h7])] at h
 have d7:((b:Int)==7)=false:=ν
 by_cases h3:b<32
 ·rw [if_pos (.inl h3)] at h
  have d3:decide ((b:Int)<32)=true:=τ
  have H:=ab h
  clear h htx hso hbo h7 h3
  refine eN func64 rfl ntmps64 fun hO=>?_
  refine ε0 ?_
  all_goals
   refine fR results64 ?_
   exact H.out
 have d3:decide ((b:Int)<32)=false:=τ2
 by_cases h4:b=127
 ·rw [if_pos (.inr (.inl h4))] at h
  have d4:((b:Int)==127)=true:=by rw [beq_iff_eq];omega
  have H:=ab h
  clear h htx hso hbo h7 h3 h4
  refine eN func64 rfl ntmps64 fun hO=>?_
  refine ε0 ?_
  all_goals
   refine fR results64 ?_
   exact H.out
 have d4:((b:Int)==127)=false:=ν
 cases bad with
 | true =>
  rw [if_pos (.inr (.inr (.inr rfl)))] at h
  have H:=ab h
  clear h htx hso hbo h7 h3 h4
  refine eN func64 rfl ntmps64 fun hO=>?_
  refine ε0 ?_
  all_goals
   refine fR results64 ?_
   exact H.out
 | false =>
  rw [if_neg (by simp [h3,h4])] at h
  by_cases h5:tx.length=512
  ·rw [if_pos h5] at h
   have d5:((tx.length:Int)==512)=true:=by rw [beq_iff_eq];omega
   have H:=ab h
   clear h htx hbo h7 h3 h4 h5
   refine eN func64 rfl ntmps64 fun hO=>?_
   refine ε1 hso ?_
   all_goals
    refine fR results64 ?_
    exact H.out
  ·rw [if_neg h5] at h
   have d5:((tx.length:Int)==512)=false:=ν
   have hl:tx.length+1≤9223372036854775807:=ω
   have H:=ab h
   clear h htx hso h7 h3 h4 h5
   refine eN func64 rfl ntmps64 fun hO=>?_
   refine ε0 ?_
   all_goals
    refine fR results64 ?_
    exact H.out
theorem yY(utf:List Nat)(pv fn:Nat)(pars:List (List Int))(it tx:List UInt8)(bad:Bool)(htx:tx.length≤512)(b:Nat)(R:Rt)(h:R (.ret (fq (eO ⟨11,utf,pv,fn,pars,it,tx,bad⟩ b))) S):ao prog w0 64 [(⟨11,utf,pv,fn,pars,it,tx,bad⟩:Ps).av,.int .u8 b] S R:=by
 simp only [Ps.av]
 unfold eO at h
 simp only at h
 have hso:=hU w0
 have hbo:=jl b
 by_cases h7:b=7
 ·subst h7
  rw [if_neg χ,if_pos (.inl δ)] at h
  have H:=ab h
  clear h htx hso hbo
  refine eN func64 rfl ntmps64 fun hO=>?_
  refine ε0 ?_
  all_goals
   refine fR results64 ?_
   exact H.out
 rw [if_neg (by simp [h7])] at h
 have d7:((b:Int)==7)=false:=ν
 by_cases h3:b<32
 ·rw [if_pos (.inl h3)] at h
  have d3:decide ((b:Int)<32)=true:=τ
  have H:=ab h
  clear h htx hso hbo h7 h3
  refine eN func64 rfl ntmps64 fun hO=>?_
  refine ε0 ?_
  all_goals
   refine fR results64 ?_
   exact H.out
 have d3:decide ((b:Int)<32)=false:=τ2
 by_cases h4:b=127
 ·rw [if_pos (.inr (.inl h4))] at h
  have d4:((b:Int)==127)=true:=by rw [beq_iff_eq];omega
  have H:=ab h
  clear h htx hso hbo h7 h3 h4
  refine eN func64 rfl ntmps64 fun hO=>?_
  refine ε0 ?_
  all_goals
   refine fR results64 ?_
   exact H.out
 have d4:((b:Int)==127)=false:=ν
 cases bad with
 | true =>
  rw [if_pos (.inr (.inr (.inr rfl)))] at h
  have H:=ab h
  clear h htx hso hbo h7 h3 h4
  refine eN func64 rfl ntmps64 fun hO=>?_
  refine ε0 ?_
  all_goals
   refine fR results64 ?_
   exact H.out
 | false =>
  rw [if_neg (by simp [h3,h4])] at h
  by_cases h5:tx.length=512
  ·rw [if_pos h5] at h
   have d5:((tx.length:Int)==512)=true:=by rw [beq_iff_eq];omega
   have H:=ab h
   clear h htx hbo h7 h3 h4 h5
   refine eN func64 rfl ntmps64 fun hO=>?_
   refine ε1 hso ?_
   all_goals
    refine fR results64 ?_
    exact H.out
  ·rw [if_neg h5] at h
   have d5:((tx.length:Int)==512)=false:=ν
   have hl:tx.length+1≤9223372036854775807:=ω
   have H:=ab h
   clear h htx hso h7 h3 h4 h5
   refine eN func64 rfl ntmps64 fun hO=>?_
   refine ε0 ?_
   all_goals
    refine fR results64 ?_
    exact H.out
theorem yX(utf:List Nat)(pv fn:Nat)(pars:List (List Int))(it tx:List UInt8)(bad:Bool)(htx:tx.length≤512)(b:Nat)(R:Rt)(h:R (.ret (fq (eO ⟨13,utf,pv,fn,pars,it,tx,bad⟩ b))) S):ao prog w0 64 [(⟨13,utf,pv,fn,pars,it,tx,bad⟩:Ps).av,.int .u8 b] S R:=by
 simp only [Ps.av]
 unfold eO at h
 simp only at h
 have hso:=hU w0
 have hbo:=jl b
 by_cases h7:b=7
 ·subst h7
  rw [if_neg χ,if_pos (.inl δ)] at h
  have H:=ab h
  clear h htx hso hbo
  refine eN func64 rfl ntmps64 fun hO=>?_
  refine ε0 ?_
  all_goals
   refine fR results64 ?_
   exact H.out
 rw [if_neg (by simp [h7])] at h
 have d7:((b:Int)==7)=false:=ν
 rw [if_pos (.inr (.inr (.inl χ)))] at h
 by_cases h3:b<32
 ·have d3:decide ((b:Int)<32)=true:=τ
  have H:=ab h
  clear h htx hso hbo h7 h3
  refine eN func64 rfl ntmps64 fun hO=>?_
  refine ε0 ?_
  all_goals
   refine fR results64 ?_
   exact H.out
 have d3:decide ((b:Int)<32)=false:=τ2
 by_cases h4:b=127
 ·have d4:((b:Int)==127)=true:=by rw [beq_iff_eq];omega
  have H:=ab h
  clear h htx hso hbo h7 h3 h4
  refine eN func64 rfl ntmps64 fun hO=>?_
  refine ε0 ?_
  all_goals
   refine fR results64 ?_
   exact H.out
 have d4:((b:Int)==127)=false:=ν
 have H:=ab h
 clear h htx hso hbo h7 h3 h4
 refine eN func64 rfl ntmps64 fun hO=>?_
 refine ε0 ?_
 all_goals
  refine fR results64 ?_
  exact H.out
theorem rL(n:Nat)(h:n≤14):fj (bp n):=⟨h,rfl,by simp [bp],by simp [bp],by simp [bp],(by decide:db []=true),by simp [bp],by simp [bp]⟩
end Go.Proofs.YthdbijpefkapnaaGreatDoor
