/- A part of the proof. -/
import Derived.Test.YthdbijpefkapnaaGreatDoorWalk21
set_option linter.all false
set_option maxHeartbeats 40000000
open Bool renaming and_eq_false_iff → gp, and_eq_true → ao, and_true → cu
open Go.IntKind renaming i64 → ae
open Go.IntWalk renaming i64_in → ah
open Go.Lib renaming hid → ab
open List renaming all_cons → z7, find?_eq_none → jN, getElem?_eq_getElem → al, map_append → aY, map_cons → ap, map_nil → aq, mem_append → cH, mem_cons → bz, mem_map → aM, mem_singleton → bk, not_mem_nil → gK, range → ba, take_add_one → sC, take_length → bt, take_succ_cons → aZ, take_zero → aP
open Nat renaming zero_le → bf
open Option renaming toList_none → fa, toList_some → ip
namespace Go.Proofs.YthdbijpefkapnaaGreatDoor
open Go Go.Fen Go.Proofs.Tryz
attribute [local irreducible] aW WP aj dS jl cQ aV cV
set_option maxRecDepth 8000
variable (w0:World) (S:List aH)
theorem pA(k n m:Int)(R:Rt)(h:R (.ret (.sval false ([gy k n m].map Ac.av))) S):aj prog w0 66 [.int .i64 k,.int .i64 n,.int .i64 m] S R:=by
 simp only [ap,aq,gy,Ac.av] at h
 refine eN func66 rfl ntmps66 fun hO=>?_
 repeat' first|refine st ?_|(refine br ?_ ?_<;>intro hb)|fail
 refine fR results66 ?_
 exact h
theorem xf:vm.map (·.1)=[7,8,9,10,11,12,13,14,15]:=rfl
theorem DL{c:Int}(h:c∉vm.map (·.1)):sV c=none:=by
 unfold sV
 rw [jN.2 (fun p hp hq=>h (aM.2 ⟨p,hp,by simpa using Eq.symm (by simpa using hq)⟩))]
 rfl
theorem xY(c:Int)(R:Rt)(h:R (.ret (.sval false ((sV c).toList.map Ac.av))) S):aj prog w0 67 [.int .i64 c] S R:=by
 have ho:=pA w0
 simp only [ap,aq,gy,Ac.av] at ho
 by_cases hm:c∈vm.map (·.1)
 ·rw [xf] at hm
  simp only [bz,gK,or_false] at hm
  rcases hm with rfl|rfl|rfl|rfl|rfl|rfl|rfl|rfl|rfl
  all_goals
   refine eN func67 rfl ntmps67 fun hO=>?_
   repeat' first|refine st ?_|(refine ca ?_;apply ho)|(refine br ?_ ?_<;>intro hb)|fail
   refine fR results67 ?_
   exact h
 ·rw [DL hm] at h
  rw [xf] at hm
  simp only [bz,gK,or_false,not_or] at hm
  obtain⟨d1,d2,d3,d4,d5,d6,d7,d8,d9⟩:(c==7)=false∧(c==8)=false∧(c==9)=false∧(c==10)=false∧(c==11)=false∧(c==12)=false∧(c==13)=false∧(c==14)=false∧(c==15)=false:=by
   simp only [beq_eq_false_iff_ne]
   omega
  clear hm ho
  simp only [fa,aq] at h
  refine eN func67 rfl ntmps67 fun hO=>?_
  repeat' first|refine st ?_|(refine br ?_ ?_<;>intro hb)|fail
  refine fR results67 ?_
  exact h
theorem oQ{w:Wy}(h:w∉wX.map (·.1)):qy w=none:=by
 unfold qy
 rw [jN.2 (fun p hp hq=>h (aM.2 ⟨p,hp,by simpa using Eq.symm (by simpa using hq)⟩))]
 rfl
theorem Ci{w:Wy}(h:w∉qw.map (·.1)):od w=none:=by
 unfold od
 rw [jN.2 (fun p hp hq=>h (aM.2 ⟨p,hp,by simpa using Eq.symm (by simpa using hq)⟩))]
 rfl
theorem oT:wX.map (·.1)=[⟨0,[35],56⟩,⟨0,[],68⟩,⟨0,[],69⟩,⟨0,[],72⟩,⟨0,[],77⟩,⟨0,[],78⟩,⟨0,[],79⟩,⟨0,[],55⟩,⟨0,[],56⟩,⟨0,[],61⟩,⟨0,[],62⟩,⟨0,[],99⟩,⟨0,[40],66⟩,⟨0,[40],48⟩,⟨0,[41],66⟩,⟨0,[41],48⟩,⟨0,[42],66⟩,⟨0,[42],48⟩,⟨0,[43],66⟩,⟨0,[43],48⟩]:=rfl
theorem Fr(f:Nat)(R:Rt)(h:R (.ret (.sval false ((qy ⟨0,[],f⟩).toList.map Ac.av))) S):aj prog w0 125 [.int .u8 f] S R:=by
 have ho:=pA w0
 simp only [ap,aq,gy,Ac.av] at ho
 by_cases hm:f=68∨f=69∨f=72∨f=77∨f=78∨f=79∨f=55∨f=56∨f=61∨f=62∨f=99
 ·rcases hm with rfl|rfl|rfl|rfl|rfl|rfl|rfl|rfl|rfl|rfl|rfl
  all_goals
   refine eN func125 rfl ntmps125 fun hO=>?_
   repeat' first|refine st ?_|(refine ca ?_;apply ho)|(refine br ?_ ?_<;>intro hb)|fail
   refine fR results125 ?_
   exact h
 ·rw [oQ (by rw [oT];simp;omega)] at h
  simp only [fa,aq] at h
  obtain⟨d0,d1,d2,d3,d4,d5,d6,d7,d8,d9,d10⟩:(((f:Nat):Int)==68)=false∧(((f:Nat):Int)==69)=false∧(((f:Nat):Int)==72)=false∧(((f:Nat):Int)==77)=false∧(((f:Nat):Int)==78)=false∧(((f:Nat):Int)==79)=false∧(((f:Nat):Int)==55)=false∧(((f:Nat):Int)==56)=false∧(((f:Nat):Int)==61)=false∧(((f:Nat):Int)==62)=false∧(((f:Nat):Int)==99)=false:=by
   simp only [beq_eq_false_iff_ne]
   omega
  clear hm ho
  refine eN func125 rfl ntmps125 fun hO=>?_
  repeat' first|refine st ?_|(refine br ?_ ?_<;>intro hb)|fail
  refine fR results125 ?_
  exact h
theorem AC(e:Ev)(R:Rt)(h:R (.ret (.sval false ((qy ⟨0,e.inter,e.fin⟩).toList.map Ac.av))) S):aj prog w0 68 [e.av] S R:=by
 obtain⟨k,c,pv,fi,ps,it,tx⟩:=e
 have ho:=pA w0
 simp only [ap,aq,gy,Ac.av] at ho
 have hb:=fun S'=>Fr w0 S' fi
 simp only [Ev.av] at h ⊢
 by_cases i0:it=[]
 ·subst i0
  generalize (qy ⟨0,[],fi⟩).toList=L at *
  clear ho
  refine eN func68 rfl ntmps68 fun hO=>?_
  repeat' first|refine st ?_|(refine ca ?_;apply hb)|(refine br ?_ ?_<;>intro hb)|fail
  refine fR results68 ?_
  exact h
 by_cases i1:it=[35]
 ·subst i1
  clear hb
  by_cases hf:fi=56
  ·subst hf
   refine eN func68 rfl ntmps68 fun hO=>?_
   repeat' first|refine st ?_|(refine ca ?_;apply ho)|(refine br ?_ ?_<;>intro hb)|fail
   refine fR results68 ?_
   exact h
  ·rw [oQ (by rw [oT];simp;omega)] at h
   simp only [fa,aq] at h
   have d0:(((fi:Nat):Int)==56)=false:=by simp only [beq_eq_false_iff_ne];omega
   clear hf ho i0
   refine eN func68 rfl ntmps68 fun hO=>?_
   repeat' first|refine st ?_|(refine br ?_ ?_<;>intro hb)|fail
   refine fR results68 ?_
   exact h
 by_cases i2:it=[40]∨it=[41]∨it=[42]∨it=[43]
 ·clear i0 i1 hb
  by_cases h66:fi=66
  ·subst h66
   rcases i2 with rfl|rfl|rfl|rfl
   all_goals
    refine eN func68 rfl ntmps68 fun hO=>?_
    repeat' first|refine st ?_|(refine ca ?_;apply ho)|(refine br ?_ ?_<;>intro hb)|fail
    refine fR results68 ?_
    exact h
  by_cases h48:fi=48
  ·subst h48
   rcases i2 with rfl|rfl|rfl|rfl
   all_goals
    refine eN func68 rfl ntmps68 fun hO=>?_
    repeat' first|refine st ?_|(refine ca ?_;apply ho)|(refine br ?_ ?_<;>intro hb)|fail
    refine fR results68 ?_
    exact h
  rw [oQ (by rw [oT];rcases i2 with rfl|rfl|rfl|rfl<;>simp<;>omega)] at h
  simp only [fa,aq] at h
  have d0:(((fi:Nat):Int)==66)=false:=by simp only [beq_eq_false_iff_ne];omega
  have d1:(((fi:Nat):Int)==48)=false:=by simp only [beq_eq_false_iff_ne];omega
  clear h66 h48 ho
  rcases i2 with rfl|rfl|rfl|rfl
  all_goals
   refine eN func68 rfl ntmps68 fun hO=>?_
   repeat' first|refine st ?_|(refine br ?_ ?_<;>intro hb)|fail
   refine fR results68 ?_
   exact h
 ·simp only [not_or] at i2
  rw [oQ (by rw [oT];simp [i0,i1,i2])] at h
  simp only [fa,aq] at h
  have e0:(it==[])=false:=by simpa using i0
  have e1:(it==[35])=false:=by simpa using i1
  have e2:(it==[40])=false:=by simpa using i2.1
  have e3:(it==[41])=false:=by simpa using i2.2.1
  have e4:(it==[42])=false:=by simpa using i2.2.2.1
  have e5:(it==[43])=false:=by simpa using i2.2.2.2
  clear i0 i1 i2 hb ho
  refine eN func68 rfl ntmps68 fun hO=>?_
  repeat' first|refine st ?_|(refine br ?_ ?_<;>intro hb)|fail
  refine fR results68 ?_
  exact h
theorem wq(k bit:Int)(l:List (List Int))(hl:l.length≤1000)(R:Rt)(h:R (.ret (.sval false (((ba (max 1 l.length)).map fun (i:Nat)=>gy k (dX l (i:Int) 0) bit).map Ac.av))) S):aj prog w0 128 [.int .i64 k,.sval false (l.map cB),.int .i64 bit] S R:=by
 have hva:=fun S' i R h=>(kO w0 S' l i 0 R h).2
 have hmx:(if (l.length:Int)>1 then (l.length:Int) else 1)=((max 1 l.length:Nat):Int):=by split<;>omega
 have hmx2:max 1 l.length≤1000:=by omega
 generalize max 1 l.length=n at *
 have H:=ab h
 clear h hl
 refine eN func128 rfl ntmps128 fun hO=>?_
 have HO:=ab hO
 clear hO
 repeat' first|refine st ?_|(refine br ?_ ?_<;>intro hb)|fail
 refine jp (t:=7) 25 6 ss (by decide) ?_
 try simp only [go_sem, *]
 refine cW (fun (j:Nat) env S'=>j≤n∧env 1000000=.dfr []∧env 0=.int .i64 k∧env 1=.sval false (l.map cB)∧env 2=.int .i64 bit∧env 7=.sown S.length j j∧env 8=.int .i64 (j:Int)∧S'=S++[.arr 25 6 0 j (((ba j).map fun (i:Nat)=>gy k (dX l (i:Int) 0) bit).map Ac.av)]) (fun j=>n - j) 0 ?_ ?_
 ·exact⟨bf _,ss,ss,ss,ss,ss,ss,by simp⟩
 ·rintro j env S' ⟨hj,e0,f0,f1,f2,f7,f8,rfl⟩ IH
  have HI:=ab IH
  clear IH
  have okY:=Ac.ok ((ba j).map fun (i:Nat)=>gy k (dX l (i:Int) 0) bit)
  simp only [cN,AV.cells] at okY
  have hcl:(((ba j).map fun (i:Nat)=>gy k (dX l (i:Int) 0) bit).map Ac.av).length=j:=by simp
  by_cases hlt:j<n
  ·have h1:decide ((j:Int)<(n:Int))=true:=by simpa using hlt
   have hw:ae.wrap ((j:Int)+1)=((j+1:Nat):Int):=by rw [ah _ (by omega)];omega
   have hb:(j+1) * 56≤140737488355328:=by omega
   have Hs:=ab (show ((ba (j+1)).map fun (i:Nat)=>gy k (dX l (i:Int) 0) bit)=((ba j).map fun (i:Nat)=>gy k (dX l (i:Int) 0) bit)++[gy k (dX l (j:Int) 0) bit] by rw [List.range_succ,aY];rfl)
   generalize ((ba j).map fun (i:Nat)=>gy k (dX l (i:Int) 0) bit)=Y at *
   have Hlt:=ab hlt
   clear hlt hj hmx2 H
   repeat' first|refine st ?_|(refine ca ?_;apply hva)|(refine br ?_ ?_<;>intro hb)|fail
   refine cw HO.out 1 [0,1,2,7,8] rfl ss ss ss ?_
   simp only [aZ,aP]
   refine HI.out (j+1) _ _ (by have:=Hlt.out;omega) ⟨Hlt.out,ss,ss,ss,ss,ss,ss, ?_⟩
   rw [Hs.out,aY];first|done|rfl
  ·have h1:decide ((j:Int)<(n:Int))=false:=by simpa using hlt
   have hjn:j=n:=by omega
   subst hjn
   have hh:=H.out
   clear hlt hj hmx2 HI H
   repeat' first|refine st ?_|(refine br ?_ ?_<;>intro hb)|fail
   refine fR results128 ?_
   exact hh
theorem rn(n m:Int)(R:Rt)(h:R (.ret (df n m).av) S):aj prog w0 236 [.int .i64 n,.int .i64 m] S R:=by
 unfold df Ac.av at h
 refine eN func236 rfl ntmps236 fun hO=>?_
 repeat' first|refine st ?_|(refine br ?_ ?_<;>intro hb)|fail
 refine fR results236 ?_
 exact h
theorem g_(n k c:Int)(R:Rt)(h:R (.ret (dC n k c).av) S):aj prog w0 278 [.int .i64 n,.int .i64 k,.int .i64 c] S R:=by
 unfold dC Ac.av at h
 refine eN func278 rfl ntmps278 fun hO=>?_
 repeat' first|refine st ?_|(refine br ?_ ?_<;>intro hb)|fail
 refine fR results278 ?_
 exact h
def iB(v:Int):Int:=match bR v with
 | some n=>n
 | none=>-1
theorem gZ(v:Int)(R:Rt)(h:R (.ret (.int .i64 (iB v))) S):aj prog w0 276 [.int .i64 v] S R:=by
 unfold iB bR at h
 by_cases c1:v=38
 ·subst c1
  refine eN func276 rfl ntmps276 fun hO=>?_
  repeat' first|refine st ?_|(refine br ?_ ?_<;>intro hb)|fail
  refine fR results276 ?_
  exact h
 by_cases c2:v=48
 ·subst c2
  refine eN func276 rfl ntmps276 fun hO=>?_
  repeat' first|refine st ?_|(refine br ?_ ?_<;>intro hb)|fail
  refine fR results276 ?_
  exact h
 by_cases c3:v=58
 ·subst c3
  refine eN func276 rfl ntmps276 fun hO=>?_
  repeat' first|refine st ?_|(refine br ?_ ?_<;>intro hb)|fail
  refine fR results276 ?_
  exact h
 rw [if_neg c1,if_neg c2,if_neg c3] at h
 have d1:(v==38)=false:=by simpa using c1
 have d2:(v==48)=false:=by simpa using c2
 have d3:(v==58)=false:=by simpa using c3
 clear c1 c2 c3
 refine eN func276 rfl ntmps276 fun hO=>?_
 repeat' first|refine st ?_|(refine br ?_ ?_<;>intro hb)|fail
 refine fR results276 ?_
 exact h
theorem mi(l:List Int)(hl:l.length≤1000000)(R:Rt)(h:R (.ret (.bool (m5 l))) S):aj prog w0 277 [.sval false (l.map eE)] S R:=by
 refine eN func277 rfl ntmps277 fun hO=>?_
 repeat' first|refine st ?_|(refine br ?_ ?_<;>intro hb)|fail
 refine cW (fun (k:Nat) env S'=>k≤l.length∧(l.take k).all w1=true∧env 1000000=.dfr []∧env 0=.sval false (l.map eE)∧env 3=.int .i64 (k:Int)∧S'=S) (fun k=>l.length - k) 0 ?_ ?_
 ·exact⟨bf _,by simp,ss,ss,ss,ss⟩
 ·rintro k env S' ⟨hk,hp,e0,f0,f3,rfl⟩ IH
  have HI:=ab IH
  have H:=ab h
  clear IH h
  by_cases hlt:k<l.length
  ·obtain⟨x,hx⟩:∃ x,l[k]? = some x:=⟨_,al hlt⟩
   have h1:decide ((k:Int)<(l.length:Int))=true:=by simpa using hlt
   have hw:ae.wrap ((k:Int)+1)=((k+1:Nat):Int):=by rw [ah _ (by omega)];omega
   have hc:eE x=.int .i64 x:=rfl
   cases hbx:w1 x with
   | false =>
    have hh:=H.out
    rw [show m5 l=l.all w1 from rfl,D0 hx hbx] at hh
    unfold w1 at hbx
    cases c1:decide (x<0) with
    | true =>
     clear hk hp hlt HI hl hbx
     repeat' first|refine st ?_|(refine br ?_ ?_<;>intro hb)|fail
     refine fR results277 ?_
     exact hh
    | false =>
     have c2:decide ((255:Int)<x)=true:=by
      simp only [gp,decide_eq_false_iff_not,decide_eq_true_eq] at hbx c1 ⊢
      omega
     clear hk hp hlt HI hl hbx
     repeat' first|refine st ?_|(refine br ?_ ?_<;>intro hb)|fail
     refine fR results277 ?_
     exact hh
   | true =>
    have Hn:=ab (vZ hx hp hbx)
    have Hlt:=ab hlt
    unfold w1 at hbx
    simp only [ao,decide_eq_true_eq] at hbx
    have c1:decide (x<0)=false:=by simp only [decide_eq_false_iff_not];omega
    have c2:decide ((255:Int)<x)=false:=by simp only [decide_eq_false_iff_not];omega
    clear hk hp hlt hbx
    repeat' first|refine st ?_|(refine br ?_ ?_<;>intro hb)|fail
    refine HI.out (k+1) _ _ (by have:=Hlt.out;omega) ⟨Hlt.out,Hn.out, ?_, ?_, ?_,rfl⟩
    all_goals (simp only [go_sem, *];try rfl)
  ·have h1:decide ((k:Int)<(l.length:Int))=false:=by simpa using hlt
   have hk':k=l.length:=by omega
   rw [hk',bt] at hp
   have hh:=H.out
   rw [show m5 l=l.all w1 from rfl,hp] at hh
   clear hlt hk hk' HI hp
   repeat' first|refine st ?_|(refine br ?_ ?_<;>intro hb)|fail
   refine fR results277 ?_
   exact hh
theorem CM(n x y z:Int)(hw:m5 [x,y,z]=true)(R:Rt)(h:R (.ret (dC n 2 (x * 65536+y * 256+z)).av) S):aj prog w0 279 [.int .i64 n,.int .i64 x,.int .i64 y,.int .i64 z] S R:=by
 have hco:=g_ w0
 unfold m5 at hw
 simp only [z7,List.all_nil,cu,ao,decide_eq_true_eq] at hw
 have k1:ae.wrap (x * 65536)=x * 65536:=ah _ (by omega)
 have k2:ae.wrap (y * 256)=y * 256:=ah _ (by omega)
 have k3:ae.wrap (x * 65536+y * 256)=x * 65536+y * 256:=ah _ (by omega)
 have k4:ae.wrap (x * 65536+y * 256+z)=x * 65536+y * 256+z:=ah _ (by omega)
 simp only [dC,Ac.av] at hco h
 clear hw
 refine eN func279 rfl ntmps279 fun hO=>?_
 repeat' first|refine st ?_|(refine ca ?_;apply hco)|(refine br ?_ ?_<;>intro hb)|fail
 refine fR results279 ?_
 exact h
def xu:List (Int × Int × Int):=[(1,1,22),(2,2,22),(3,4,23),(5,8,25),(7,16,27),(8,32,28),(9,64,29),(53,128,55)]
def LU(p:Int × Int × Int):AV:=.agg [.int .i64 p.1,.int .i64 p.2.1,.int .i64 p.2.2]
theorem Fq(R:Rt)(h:R (.ret (.sval false (xu.map LU))) S):aj prog w0 327 [] S R:=by
 simp only [xu,LU,ap,aq] at h
 refine eN func327 rfl ntmps327 fun hO=>?_
 repeat' first|refine st ?_|(refine br ?_ ?_<;>intro hb)|fail
 refine fR results327 ?_
 exact h
theorem J3:∀ r∈xu,ir r.1=some (df 1 r.2.1):=by
 intro r hr
 simp only [xu,bz,gK,or_false] at hr
 rcases hr with rfl|rfl|rfl|rfl|rfl|rfl|rfl|rfl<;>rfl
theorem DX:∀ r∈xu,(r.2.2 != 22)=true→ir r.2.2=some (df 2 r.2.1):=by
 intro r hr h
 simp only [xu,bz,gK,or_false] at hr
 rcases hr with rfl|rfl|rfl|rfl|rfl|rfl|rfl|rfl<;>first|rfl|cases h
def DY(v:Int)(r:Int × Int × Int):Prop:=v≠r.1∧(v=r.2.2→v=22)
theorem Lw{v:Int}(h:∀ r∈xu,DY v r):v≠1∧v≠2∧v≠3∧v≠5∧v≠7∧v≠8∧v≠9∧v≠53∧v≠23∧v≠25∧v≠27∧v≠28∧v≠29∧v≠55:=by
 simp only [xu,bz,gK,or_false,forall_eq_or_imp,forall_eq,DY] at h
 omega
theorem y_{α:Type}{p:α→Prop}{l:List α}{k:Nat}{x:α}(hx:l[k]? = some x)(h:∀ r∈l.take k,p r)(hp:p x):∀ r∈l.take (k+1),p r:=by
 intro r hr
 rw [sC,hx] at hr
 rcases cH.1 hr with hr|hr
 ·exact h r hr
 ·simp only [ip,bk] at hr
  rw [hr];exact hp
end Go.Proofs.YthdbijpefkapnaaGreatDoor
