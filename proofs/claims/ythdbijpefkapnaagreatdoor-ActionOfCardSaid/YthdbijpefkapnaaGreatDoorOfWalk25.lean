/- A part of the proof. -/
import Derived.Test.YthdbijpefkapnaaGreatDoorOfWalk15
import Derived.Test.YthdbijpefkapnaaGreatDoorOfWalk2
set_option linter.all false
set_option maxHeartbeats 40000000
open Bool renaming and_eq_false_iff → gF, and_eq_true → aq, and_true → cG
open Go.IntKind renaming i64 → ae
open Go.IntWalk renaming i64_in → ai
open Go.Lib renaming hid → ab
open List renaming all_cons → tL, find?_eq_none → kl, getElem?_eq_getElem → ap, map_append → aM, map_cons → al, map_nil → aj, mem_append → bV, mem_cons → bD, mem_map → aN, mem_singleton → a_, not_mem_nil → gZ, range → bh, take_add_one → jW, take_length → bC, take_succ_cons → aR, take_zero → aO
open Nat renaming zero_le → bf
open Option renaming toList_none → fo, toList_some → iX
namespace Go.Proofs.YthdbijpefkapnaaGreatDoor
open Go Go.Fen Go.Proofs.Tryz
attribute [local irreducible] aX WP ao dS i7 cJ aU cC
set_option maxRecDepth 8000
variable (w0:World) (S:List aH)
theorem qa(k n m:Int)(R:Rt)(h:R (.ret (.sval false ([gP k n m].map Ac.av))) S):ao prog w0 66 [.int .i64 k,.int .i64 n,.int .i64 m] S R:=by
 simp only [al,aj,gP,Ac.av] at h
 exact γR0 func66 ntmps66 results66 h
theorem yb:wk.map (·.1)=[7,8,9,10,11,12,13,14,15]:=rfl
theorem EK{c:Int}(h:c∉wk.map (·.1)):tY c=none:=by
 unfold tY
 rw [kl.2 (fun p hp hq=>h (aN.2 ⟨p,hp,by simpa using Eq.symm (by simpa using hq)⟩))]
 rfl
theorem y6(c:Int)(R:Rt)(h:R (.ret (.sval false ((tY c).toList.map Ac.av))) S):ao prog w0 67 [.int .i64 c] S R:=by
 have ho:=qa w0
 simp only [al,aj,gP,Ac.av] at ho
 by_cases hm:c∈wk.map (·.1)
 ·rw [yb] at hm
  simp only [bD,gZ,or_false] at hm
  rcases hm with rfl|rfl|rfl|rfl|rfl|rfl|rfl|rfl|rfl
  all_goals
   exact γR1 ho func67 ntmps67 results67 h
 ·rw [EK hm] at h
  rw [yb] at hm
  simp only [bD,gZ,or_false,not_or] at hm
  obtain⟨d1,d2,d3,d4,d5,d6,d7,d8,d9⟩:(c==7)=false∧(c==8)=false∧(c==9)=false∧(c==10)=false∧(c==11)=false∧(c==12)=false∧(c==13)=false∧(c==14)=false∧(c==15)=false:=by
   simp only [beq_eq_false_iff_ne]
   omega
  clear hm ho
  simp only [fo,aj] at h
  exact γR0 func67 ntmps67 results67 h
theorem pz{w:Wy}(h:w∉xX.map (·.1)):rl w=none:=by
 unfold rl
 rw [kl.2 (fun p hp hq=>h (aN.2 ⟨p,hp,by simpa using Eq.symm (by simpa using hq)⟩))]
 rfl
theorem Dd{w:Wy}(h:w∉rj.map (·.1)):oY w=none:=by
 unfold oY
 rw [kl.2 (fun p hp hq=>h (aN.2 ⟨p,hp,by simpa using Eq.symm (by simpa using hq)⟩))]
 rfl
theorem pA:xX.map (·.1)=[⟨0,[35],56⟩,⟨0,[],68⟩,⟨0,[],69⟩,⟨0,[],72⟩,⟨0,[],77⟩,⟨0,[],78⟩,⟨0,[],79⟩,⟨0,[],55⟩,⟨0,[],56⟩,⟨0,[],61⟩,⟨0,[],62⟩,⟨0,[],99⟩,⟨0,[40],66⟩,⟨0,[40],48⟩,⟨0,[41],66⟩,⟨0,[41],48⟩,⟨0,[42],66⟩,⟨0,[42],48⟩,⟨0,[43],66⟩,⟨0,[43],48⟩]:=rfl
theorem GG(f:Nat)(R:Rt)(h:R (.ret (.sval false ((rl ⟨0,[],f⟩).toList.map Ac.av))) S):ao prog w0 125 [.int .u8 f] S R:=by
 have ho:=qa w0
 simp only [al,aj,gP,Ac.av] at ho
 by_cases hm:f=68∨f=69∨f=72∨f=77∨f=78∨f=79∨f=55∨f=56∨f=61∨f=62∨f=99
 ·rcases hm with rfl|rfl|rfl|rfl|rfl|rfl|rfl|rfl|rfl|rfl|rfl
  all_goals
   exact γR1 ho func125 ntmps125 results125 h
 ·rw [pz (by rw [pA];simp;omega)] at h
  simp only [fo,aj] at h
  obtain⟨d0,d1,d2,d3,d4,d5,d6,d7,d8,d9,d10⟩:(((f:Nat):Int)==68)=false∧(((f:Nat):Int)==69)=false∧(((f:Nat):Int)==72)=false∧(((f:Nat):Int)==77)=false∧(((f:Nat):Int)==78)=false∧(((f:Nat):Int)==79)=false∧(((f:Nat):Int)==55)=false∧(((f:Nat):Int)==56)=false∧(((f:Nat):Int)==61)=false∧(((f:Nat):Int)==62)=false∧(((f:Nat):Int)==99)=false:=by
   simp only [beq_eq_false_iff_ne]
   omega
  clear hm ho
  exact γR0 func125 ntmps125 results125 h
theorem BD(e:Ev)(R:Rt)(h:R (.ret (.sval false ((rl ⟨0,e.inter,e.fin⟩).toList.map Ac.av))) S):ao prog w0 68 [e.av] S R:=by
 obtain⟨k,c,pv,fi,ps,it,tx⟩:=e
 have ho:=qa w0
 simp only [al,aj,gP,Ac.av] at ho
 have hb:=fun S'=>GG w0 S' fi
 simp only [Ev.av] at h ⊢
 by_cases i0:it=[]
 ·subst i0
  generalize (rl ⟨0,[],fi⟩).toList=L at *
  clear ho
  exact γR1 hb func68 ntmps68 results68 h
 by_cases i1:it=[35]
 ·subst i1
  clear hb
  by_cases hf:fi=56
  ·subst hf
   exact γR1 ho func68 ntmps68 results68 h
  ·rw [pz (by rw [pA];simp;omega)] at h
   simp only [fo,aj] at h
   have d0:(((fi:Nat):Int)==56)=false:=by simp only [beq_eq_false_iff_ne];omega
   clear hf ho i0
   exact γR0 func68 ntmps68 results68 h
 by_cases i2:it=[40]∨it=[41]∨it=[42]∨it=[43]
 ·clear i0 i1 hb
  by_cases h66:fi=66
  ·subst h66
   rcases i2 with rfl|rfl|rfl|rfl
   all_goals
    exact γR1 ho func68 ntmps68 results68 h
  by_cases h48:fi=48
  ·subst h48
   rcases i2 with rfl|rfl|rfl|rfl
   all_goals
    exact γR1 ho func68 ntmps68 results68 h
  rw [pz (by rw [pA];rcases i2 with rfl|rfl|rfl|rfl<;>simp<;>omega)] at h
  simp only [fo,aj] at h
  have d0:(((fi:Nat):Int)==66)=false:=by simp only [beq_eq_false_iff_ne];omega
  have d1:(((fi:Nat):Int)==48)=false:=by simp only [beq_eq_false_iff_ne];omega
  clear h66 h48 ho
  rcases i2 with rfl|rfl|rfl|rfl
  all_goals
   exact γR0 func68 ntmps68 results68 h
 ·simp only [not_or] at i2
  rw [pz (by rw [pA];simp [i0,i1,i2])] at h
  simp only [fo,aj] at h
  have e0:(it==[])=false:=by simpa using i0
  have e1:(it==[35])=false:=by simpa using i1
  have e2:(it==[40])=false:=by simpa using i2.1
  have e3:(it==[41])=false:=by simpa using i2.2.1
  have e4:(it==[42])=false:=by simpa using i2.2.2.1
  have e5:(it==[43])=false:=by simpa using i2.2.2.2
  clear i0 i1 i2 hb ho
  exact γR0 func68 ntmps68 results68 h
theorem xr(k bit:Int)(l:List (List Int))(hl:l.length≤1000)(R:Rt)(h:R (.ret (.sval false (((bh (max 1 l.length)).map fun (i:Nat)=>gP k (eg l (i:Int) 0) bit).map Ac.av))) S):ao prog w0 128 [.int .i64 k,.sval false (l.map ct),.int .i64 bit] S R:=by
 have hva:=fun S' i R h=>(li w0 S' l i 0 R h).2
 have hmx:(if (l.length:Int)>1 then (l.length:Int) else 1)=((max 1 l.length:Nat):Int):=by split<;>omega
 have hmx2:max 1 l.length≤1000:=ω
 generalize max 1 l.length=n at *
 have H:=ab h
 clear h hl
 refine eN func128 rfl ntmps128 fun hO=>?_
 have HO:=ab hO
 clear hO
 refine ε0 ?_
 refine ij (t:=7) 25 6 ss δ ?_
 try simp only [go_sem, *]
 refine cD (fun (j:Nat) env S'=>j≤n∧env 1000000=.dfr []∧env 0=.int .i64 k∧env 1=.sval false (l.map ct)∧env 2=.int .i64 bit∧env 7=.sown S.length j j∧env 8=.int .i64 (j:Int)∧S'=S++[.arr 25 6 0 j (((bh j).map fun (i:Nat)=>gP k (eg l (i:Int) 0) bit).map Ac.av)]) (fun j=>n - j) 0 ?_ ?_
 ·exact⟨bf _,ss,ss,ss,ss,ss,ss,χ⟩
 ·rintro j env S' ⟨hj,e0,f0,f1,f2,f7,f8,rfl⟩ IH
  have HI:=ab IH
  clear IH
  have okY:=Ac.ok ((bh j).map fun (i:Nat)=>gP k (eg l (i:Int) 0) bit)
  simp only [cI,AV.cells] at okY
  have hcl:(((bh j).map fun (i:Nat)=>gP k (eg l (i:Int) 0) bit).map Ac.av).length=j:=χ
  by_cases hlt:j<n
  ·have h1:decide ((j:Int)<(n:Int))=true:=by simpa using hlt
   have hw:ae.wrap ((j:Int)+1)=((j+1:Nat):Int):=by rw [ai _ ω];omega
   have hb:(j+1) * 56≤140737488355328:=ω
   have Hs:=ab (show ((bh (j+1)).map fun (i:Nat)=>gP k (eg l (i:Int) 0) bit)=((bh j).map fun (i:Nat)=>gP k (eg l (i:Int) 0) bit)++[gP k (eg l (j:Int) 0) bit] by rw [List.range_succ,aM];rfl)
   generalize ((bh j).map fun (i:Nat)=>gP k (eg l (i:Int) 0) bit)=Y at *
   have Hlt:=ab hlt
   clear hlt hj hmx2 H
   refine ε1 hva ?_
   refine bX HO.out 1 [0,1,2,7,8] rfl ss ss ss ?_
   simp only [aR,aO]
   refine HI.out (j+1) _ _ (by have:=Hlt.out;omega) ⟨Hlt.out,ss,ss,ss,ss,ss,ss, ?_⟩
   rw [Hs.out,aM];first|done|rfl
  ·have h1:decide ((j:Int)<(n:Int))=false:=by simpa using hlt
   have hjn:j=n:=ω
   subst hjn
   have hh:=H.out
   clear hlt hj hmx2 HI H
   refine ε0 ?_
   refine fR results128 ?_
   exact hh
theorem sg(n m:Int)(R:Rt)(h:R (.ret (dt n m).av) S):ao prog w0 236 [.int .i64 n,.int .i64 m] S R:=by
 unfold dt Ac.av at h
 exact γR0 func236 ntmps236 results236 h
theorem iq(n k c:Int)(R:Rt)(h:R (.ret (dI n k c).av) S):ao prog w0 278 [.int .i64 n,.int .i64 k,.int .i64 c] S R:=by
 unfold dI Ac.av at h
 exact γR0 func278 ntmps278 results278 h
def i_(v:Int):Int:=match bZ v with
 | some n=>n
 | none=>-1
theorem ii(v:Int)(R:Rt)(h:R (.ret (.int .i64 (i_ v))) S):ao prog w0 276 [.int .i64 v] S R:=by
 unfold i_ bZ at h
 by_cases c1:v=38
 ·subst c1
  exact γR0 func276 ntmps276 results276 h
 by_cases c2:v=48
 ·subst c2
  exact γR0 func276 ntmps276 results276 h
 by_cases c3:v=58
 ·subst c3
  exact γR0 func276 ntmps276 results276 h
 rw [if_neg c1,if_neg c2,if_neg c3] at h
 have d1:(v==38)=false:=by simpa using c1
 have d2:(v==48)=false:=by simpa using c2
 have d3:(v==58)=false:=by simpa using c3
 clear c1 c2 c3
 exact γR0 func276 ntmps276 results276 h
theorem mM(l:List Int)(hl:l.length≤1000000)(R:Rt)(h:R (.ret (.bool (nN l))) S):ao prog w0 277 [.sval false (l.map ea)] S R:=by
 refine eN func277 rfl ntmps277 fun hO=>?_
 refine ε0 ?_
 refine cD (fun (k:Nat) env S'=>k≤l.length∧(l.take k).all w1=true∧env 1000000=.dfr []∧env 0=.sval false (l.map ea)∧env 3=.int .i64 (k:Int)∧S'=S) (fun k=>l.length - k) 0 ?_ ?_
 ·exact⟨bf _,χ,ss,ss,ss,ss⟩
 ·rintro k env S' ⟨hk,hp,e0,f0,f3,rfl⟩ IH
  have HI:=ab IH
  have H:=ab h
  clear IH h
  by_cases hlt:k<l.length
  ·obtain⟨x,hx⟩:∃ x,l[k]? = some x:=⟨_,ap hlt⟩
   have h1:decide ((k:Int)<(l.length:Int))=true:=by simpa using hlt
   have hw:ae.wrap ((k:Int)+1)=((k+1:Nat):Int):=by rw [ai _ ω];omega
   have hc:ea x=.int .i64 x:=rfl
   cases hbx:w1 x with
   | false =>
    have hh:=H.out
    rw [show nN l=l.all w1 from rfl,E4 hx hbx] at hh
    unfold w1 at hbx
    cases c1:decide (x<0) with
    | true =>
     clear hk hp hlt HI hl hbx
     refine ε0 ?_
     refine fR results277 ?_
     exact hh
    | false =>
     have c2:decide ((255:Int)<x)=true:=by
      simp only [gF,decide_eq_false_iff_not,decide_eq_true_eq] at hbx c1 ⊢
      omega
     clear hk hp hlt HI hl hbx
     refine ε0 ?_
     refine fR results277 ?_
     exact hh
   | true =>
    have Hn:=ab (wZ hx hp hbx)
    have Hlt:=ab hlt
    unfold w1 at hbx
    simp only [aq,decide_eq_true_eq] at hbx
    have c1:decide (x<0)=false:=τ2
    have c2:decide ((255:Int)<x)=false:=τ2
    clear hk hp hlt hbx
    refine ε0 ?_
    refine HI.out (k+1) _ _ (by have:=Hlt.out;omega) ⟨Hlt.out,Hn.out, ?_, ?_, ?_,rfl⟩
    all_goals (simp only [go_sem, *];try rfl)
  ·have h1:decide ((k:Int)<(l.length:Int))=false:=by simpa using hlt
   have hk':k=l.length:=ω
   rw [hk',bC] at hp
   have hh:=H.out
   rw [show nN l=l.all w1 from rfl,hp] at hh
   clear hlt hk hk' HI hp
   refine ε0 ?_
   refine fR results277 ?_
   exact hh
theorem DG(n x y z:Int)(hw:nN [x,y,z]=true)(R:Rt)(h:R (.ret (dI n 2 (x * 65536+y * 256+z)).av) S):ao prog w0 279 [.int .i64 n,.int .i64 x,.int .i64 y,.int .i64 z] S R:=by
 have hco:=iq w0
 unfold nN at hw
 simp only [tL,List.all_nil,cG,aq,decide_eq_true_eq] at hw
 have k1:ae.wrap (x * 65536)=x * 65536:=ai _ ω
 have k2:ae.wrap (y * 256)=y * 256:=ai _ ω
 have k3:ae.wrap (x * 65536+y * 256)=x * 65536+y * 256:=ai _ ω
 have k4:ae.wrap (x * 65536+y * 256+z)=x * 65536+y * 256+z:=ai _ ω
 simp only [dI,Ac.av] at hco h
 clear hw
 exact γR1 hco func279 ntmps279 results279 h
def yq:List (Int × Int × Int):=[(1,1,22),(2,2,22),(3,4,23),(5,8,25),(7,16,27),(8,32,28),(9,64,29),(53,128,55)]
def Nm(p:Int × Int × Int):AV:=.agg [.int .i64 p.1,.int .i64 p.2.1,.int .i64 p.2.2]
theorem Gs(R:Rt)(h:R (.ret (.sval false (yq.map Nm))) S):ao prog w0 327 [] S R:=by
 simp only [yq,Nm,al,aj] at h
 exact γR0 func327 ntmps327 results327 h
theorem Lw:∀ r∈yq,iU r.1=some (dt 1 r.2.1):=by
 intro r hr
 simp only [yq,bD,gZ,or_false] at hr
 rcases hr with rfl|rfl|rfl|rfl|rfl|rfl|rfl|rfl<;>rfl
theorem EY:∀ r∈yq,(r.2.2 != 22)=true→iU r.2.2=some (dt 2 r.2.1):=by
 intro r hr h
 simp only [yq,bD,gZ,or_false] at hr
 rcases hr with rfl|rfl|rfl|rfl|rfl|rfl|rfl|rfl<;>first|rfl|cases h
def EZ(v:Int)(r:Int × Int × Int):Prop:=v≠r.1∧(v=r.2.2→v=22)
theorem M0{v:Int}(h:∀ r∈yq,EZ v r):v≠1∧v≠2∧v≠3∧v≠5∧v≠7∧v≠8∧v≠9∧v≠53∧v≠23∧v≠25∧v≠27∧v≠28∧v≠29∧v≠55:=by
 simp only [yq,bD,gZ,or_false,forall_eq_or_imp,forall_eq,EZ] at h
 omega
theorem Ah{α:Type}{p:α→Prop}{l:List α}{k:Nat}{x:α}(hx:l[k]? = some x)(h:∀ r∈l.take k,p r)(hp:p x):∀ r∈l.take (k+1),p r:=by
 intro r hr
 rw [jW,hx] at hr
 rcases bV.1 hr with hr|hr
 ·exact h r hr
 ·simp only [iX,a_] at hr
  rw [hr];exact hp
end Go.Proofs.YthdbijpefkapnaaGreatDoor
