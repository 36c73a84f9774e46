/- A part of the proof. -/
import Derived.Test.YthdbijpefkapnaaGreatDoorOfWalk16
set_option linter.all false
set_option maxHeartbeats 40000000
open And renaming intro → a7
open Bool renaming and_eq_true → aq, and_true → cG, false_eq_true → aZ, or_eq_true → ef
open Go.IntKind renaming i64 → ae, u8 → a6
open Go.IntWalk renaming i64_in → ai, u8_in → cR
open Go.Lib renaming hid → ab
open Go.RowKit renaming Hid → CC
open List renaming all_cons → tL, all_eq_true → aD, any_eq_false → Jm, append_assoc → aP, append_nil → aG, cons_append → fQ, getElem?_append_left → au, getElem?_append_right → aA, getElem?_eq_getElem → ap, getElem?_eq_none → bR, getElem?_eq_some_iff → af, getElem?_map → aJ, getElem?_set_ne → be, getElem?_set_self → gV, getElem?_take → bc, length_append → ah, length_cons → aB, length_nil → aI, length_set → bx, length_take → pU, map → bn, map_append → aM, map_cons → al, map_nil → aj, mem_append → bV, mem_map → aN, mem_of_getElem? → ax, mem_singleton → a_, nil_append → gu, set_append_left → iP, set_append_right → eI, take_add_one → jW, take_left → yB, take_length → bC, take_of_length_le → dJ
open Nat renaming add_assoc → qI, add_zero → l8, le_refl → ba, sub_self → la, zero_le → bf
open Option renaming toList_some → iX
open UInt8 renaming ofNat → az
namespace Go.Proofs.YthdbijpefkapnaaGreatDoor
open Go Go.Fen Go.Proofs.Tryz
attribute [local irreducible] aX WP ao dS i7 cJ aU cC
set_option maxRecDepth 8000
variable (w0:World) (S:List aH)
theorem kO(z:Int)(R:Rt)(h:R (.ret (.agg [.int .i64 z,.sval false [],.int .u8 0,.int .u8 0,.sval false [],.str [],.str [],.bool false])) S):ao prog w0 62 [.int .i64 z] S R:=by
 exact γR0 func62 ntmps62 results62 h
theorem hU(z:Int)(R:Rt)(h:R (.ret (.agg [.int .i64 z,.sval false [],.int .u8 0,.int .u8 0,.sval false [],.str [],.str [],.bool true])) S):ao prog w0 121 [.int .i64 z] S R:=by
 exact γR0 func121 ntmps121 results121 h
theorem n_(z:Int)(utf:List Nat)(pv fn:Int)(pars:List (List Int))(it tx:List UInt8)(bad:Bool)(e:Ev)(R:Rt)
  (h:R (.ret (.tup [.agg [.int .i64 0,.sval false [],.int .u8 0,.int .u8 0,.sval false [],.str [],.str [],.bool false],.sval false ((if bad then [] else [e]).map Ev.av)])) S) :
  ao prog w0 120 [.agg [.int .i64 z,.sval false (utf.map By),.int .u8 pv,.int .u8 fn,.sval false (pars.map ct),.str it,.str tx,.bool bad],e.av] S R:=by
 have hb:=kO w0
 obtain⟨k,c,v,f,ps,i2,t2⟩:=e
 cases bad with
 | true =>
  simp only [if_true,aj] at h
  simp only [Ev.av]
  exact γR1 hb func120 ntmps120 results120 h
 | false =>
  simp only [aZ,if_false,al,aj,Ev.av] at h
  simp only [Ev.av]
  refine eN func120 rfl ntmps120 fun hO=>?_
  refine Δ1 hb ?_
  all_goals
   refine fR results120 ?_
   exact h
theorem jl(b:Nat):gz [.int .u8 (b:Int)]=some [az b]:=by
 simp [gz]
theorem mN(z:Int)(utf:List Nat)(pv fn:Int)(pars:List (List Int))(it tx:List UInt8)(bad:Bool)(b:Nat)(hit:it.length≤2)(R:Rt)
  (h:R (.ret (if bad∨it.length=2 then .agg [.int .i64 z,.sval false [],.int .u8 0,.int .u8 0,.sval false [],.str [],.str [],.bool true] else .agg [.int .i64 z,.sval false (utf.map By),.int .u8 pv,.int .u8 fn,.sval false (pars.map ct),.str (it++[az b]),.str tx,.bool bad])) S) :
  ao prog w0 123 [.agg [.int .i64 z,.sval false (utf.map By),.int .u8 pv,.int .u8 fn,.sval false (pars.map ct),.str it,.str tx,.bool bad],.int .u8 b] S R:=by
 have hs:=hU w0
 cases bad with
 | true =>
  rw [if_pos (.inl rfl)] at h
  clear hit
  exact γR1 hs func123 ntmps123 results123 h
 | false =>
  by_cases h2:it.length=2
  ·rw [if_pos (.inr h2)] at h
   have d:((it.length:Int)==2)=true:=by rw [h2];rfl
   clear hit h2
   exact γR1 hs func123 ntmps123 results123 h
  ·rw [if_neg (by simp [h2])] at h
   have d:((it.length:Int)==2)=false:=by simp only [beq_eq_false_iff_ne];omega
   have hl:it.length+1≤9223372036854775807:=ω
   have hbo:=jl b
   clear hit h2 hs
   exact γR0 func123 ntmps123 results123 h
theorem DT(p:Ps)(hp:p.bad=false)(b:Nat)(R:Rt)(h:R (.ret (.tup [(qp p b).1.av,.sval false ((qp p b).2.map Ev.av)])) S) :
  ao prog w0 122 [.int .u8 b] S R:=by
 have hb:=kO w0
 have hbo:=jl b
 unfold qp at h
 by_cases h1:b=91∨b=93∨b=80∨b=88∨b=94∨b=95
 ·clear hbo
  rcases h1 with rfl|rfl|rfl|rfl|rfl|rfl
  all_goals
   exact γR1 hb func122 ntmps122 results122 h
 ·simp only [not_or] at h1
  rw [if_neg h1.1,if_neg h1.2.1,if_neg h1.2.2.1,if_neg (by simp only [not_or];exact h1.2.2.2)] at h
  obtain⟨d1,d2,d3,d4,d5,d6⟩:((b:Int)==91)=false∧((b:Int)==93)=false∧((b:Int)==80)=false∧((b:Int)==88)=false∧((b:Int)==94)=false∧((b:Int)==95)=false:=by simp only [beq_eq_false_iff_ne];omega
  by_cases h48:b<48
  ·rw [if_pos h48] at h
   have d7:decide ((b:Int)≤47)=true:=τ
   clear h1 h48
   exact γR1 hb func122 ntmps122 results122 h
  ·rw [if_neg h48] at h
   have d7:decide ((b:Int)≤47)=false:=τ2
   unfold gN at h
   rw [hp] at h
   clear h1 h48 hbo
   exact γR1 hb func122 ntmps122 results122 h
def xl(s:List Int):aH:=.arr 3 1 0 1 (s.map ea)
def iK:Nat→List (List Int)→List AV
 | _,[]=>[]
 | b,s::r=>.agg [.sown b 1 s.length]::iK (b+1) r
theorem sU:∀ (l:List (List Int)) (b:Nat),(iK b l).length=l.length
 | [],_=>rfl
 | _::r,b=>by simp [iK,sU r]
theorem qt:∀ (l:List (List Int)) (b:Nat) (s:List Int),iK b (l++[s])=iK b l++[.agg [.sown (b+l.length) 1 s.length]]
 | [],b,s=>by simp [iK]
 | x::r,b,s=>by simp [iK,qt r,qI,Nat.add_comm 1]
theorem AU:∀ (l:List (List Int)) (b n:Nat),b+l.length≤n→(iK b l).all (fun v=>v.lt n)=true
 | [],_,_,_=>rfl
 | x::r,b,n,h=>by
  simp only [iK,tL,aq]
  simp only [aB] at h
  refine⟨?_,AU r _ _ ω⟩
  simp [AV.lt,ltL];omega
def lG(b:Nat)(l:List (List Int)):List aH:=.arr 63 1 0 l.length (iK (b+1) l)::l.map xl
theorem pD(b:Nat)(l:List (List Int)):(lG b l).length=l.length+1:=by simp [lG]
theorem EL(S:List aH)(l:List (List Int))(s:List Int)(V:aH) :
  ((S++lG S.length l).set S.length (.arr 63 1 0 (l.length+1) (iK (S.length+1) l++[.agg [.sown (S++lG S.length l).length 1 s.length]])))++[xl s,V]=S++(lG S.length (l++[s])++[V]):=by
 have h1:(S++lG S.length l).length=S.length+1+l.length:=by rw [ah,pD];omega
 rw [h1,← qt]
 simp [lG]
theorem Lo(l:List (List Int))(b n:Nat)(h:b+1+l.length≤n):(lG b l).all (fun B=>B.ltB n)=true:=by
 have h1:=AU l (b+1) n h
 simp only [lG,tL,aq]
 refine⟨?_, ?_⟩
 ·rw [aH.ltB];exact c_.2 fun x hx=>aD.1 h1 x hx
 ·rw [aD]
  intro B hB
  obtain⟨s,_,rfl⟩:=aN.1 hB
  rw [xl,aH.ltB]
  exact ea.ltL s n
theorem xp(l:List (List Int))(hl:l.length≤16)(h6:∀ s∈l,s.length≤6)(R:Rt)(h:R (.ret (.sown S.length l.length l.length)) (S++lG S.length l)) :
  ao prog w0 197 [.sval false (l.map ct)] S R:=by
 have H6:=ab h6
 have H:=ab h
 clear h6 h
 refine zD func197 rfl (by decide +kernel) (by rw [ntmps197];simp) (by rw [ntmps197];decide) (fun hO=>?_);rw [ntmps197]
 have HO:=ab hO
 clear hO
 refine ε0 ?_
 refine ij (t:=3) 63 1 ss δ ?_
 try simp only [go_sem, *]
 refine cD (fun (k:Nat) env S'=>k≤l.length∧env 1000000=.dfr []∧env 0=.sval false (l.map ct)∧env 3=.sown S.length k k∧env 4=.int .i64 (k:Int)∧S'=S++lG S.length (l.take k)) (fun k=>l.length - k) 0 ?_ ?_
 ·exact⟨bf _,ss,ss,ss,ss,rfl⟩
 ·rintro k env S' ⟨hk,e0,f0,f3,f4,rfl⟩ IH
  have HI:=ab IH
  clear IH
  by_cases hlt:k<l.length
  ·obtain⟨s,hs⟩:∃ s,l[k]? = some s:=⟨_,ap hlt⟩
   have h1:decide ((k:Int)<(l.length:Int))=true:=by simpa using hlt
   have hw:ae.wrap ((k:Int)+1)=((k+1:Nat):Int):=by rw [ai _ ω];omega
   have hs6:s.length≤6:=H6.out s (ax hs)
   have hp:ct s=.agg [.sval false (s.map ea)]:=rfl
   have hb8:s.length * 8≤140737488355328:=ω
   have hb9:(k+1) * 24≤140737488355328:=ω
   have htk:l.take (k+1)=l.take k++[s]:=by
    rw [jW,hs];rfl
   have hkl:(l.take k).length=k:=by rw [pU];omega
   have hE:=ab (fun V=>EL S (l.take k) s V)
   have hg:∀ X:List aH,((S++lG S.length (l.take k))++X)[S.length]? = some (.arr 63 1 0 k (iK (S.length+1) (l.take k))):=by
    intro X
    rw [aP,aA (ba _),la]
    simp [lG,hkl]
   have hset:∀ (X:List aH) (B:aH),((S++lG S.length (l.take k))++X).set S.length B=(S++lG S.length (l.take k)).set S.length B++X:=by
    intro X B
    rw [iP]
    rw [ah,pD];omega
   have hel:(iK (S.length+1) (l.take k)).length=k:=by rw [sU,hkl]
   have HW:=ab (show (S++lG S.length (l.take k)).length=S.length+1+k by rw [ah,pD];omega)
   have okA:=ea.ok s
   simp only [cI,AV.cells] at okA
   have Hlt:=ab (a7 hlt (a7 hkl htk))
   clear hlt hk htk hs6 H hl
   generalize hYd:iK (S.length+1) (l.take k)=Y at *
   generalize hWd:S++lG S.length (l.take k)=W at *
   refine ε0 ?_
   have e:=hE.out (aH.arr 63 1 0 0 [AV.agg [AV.sown W.length 1 s.length]])
   rw [hkl] at e
   simp only [xl] at e
   rw [e]
   have hc1:(lG S.length (l.take k++[s])).length=k+2:=by rw [pD,ah,hkl];rfl
   have hc2:(lG S.length (l.take k++[s])++[aH.arr 63 1 0 0 [AV.agg [AV.sown W.length 1 s.length]]]).take (k+2)=lG S.length (l.take k++[s]):=by rw [← hc1,yB]
   refine bX HO.out (k+2) [0,3,4] rfl ss ss ?_ ?_
   ·rw [hc2]
    exact Lo _ _ _ (by rw [ah,hkl];simp only [aB,aI];omega)
   rw [hc2]
   refine HI.out (k+1) _ _ (by have:=Hlt.out;omega) ⟨Hlt.out.1,ss,ss,ss,ss, ?_⟩
   rw [Hlt.out.2.2]
  ·have h1:decide ((k:Int)<(l.length:Int))=false:=by simpa using hlt
   have hkl:k=l.length:=ω
   subst hkl
   have hh:=H.out
   rw [bC] at *
   clear hlt hk HI H
   refine ε0 ?_
   (apply zy;iterate 4 (· simp only [go_sem, *,results197];try rfl))
   exact hh
theorem GF(c:Nat)(hc:48≤c∧c≤59)(R:Rt)(h:R (.ret (gH (iZ [] c))) S) :
  ao prog w0 124 [.sval false [],.int .u8 c] S R:=by
 have hck:=fun S'=>o5 w0 S' []
 have hck0:mQ []=0:=δ
 rw [hck0] at hck
 simp only [aj] at hck
 have hcp:=fun S'=>xp w0 S' [] δ χ
 simp only [aj,lG,iK,aI] at hcp
 rw [ip (pre:=[]) (q:=[]) (n:=-1) rfl] at h
 simp only [gu,aI] at h
 have hw1:ae.wrap (((1:Nat):Int) - 1)=((0:Nat):Int):=δ
 have d1:decide ((c:Int)<48)=false:=τ2
 by_cases c1:c=59
 ·subst c1
  have H:=ab h
  clear h hc
  exact γR2 hck hcp func124 ntmps124 results124 H.out
 rw [if_neg c1] at h
 have f1:((c:Int)==59)=false:=ν
 have f1':((c:Int) != 59)=true:=by rw [bne_iff_ne];omega
 by_cases c2:c=58
 ·subst c2
  have H:=ab h
  clear h hc
  refine eN func124 rfl ntmps124 fun hO=>?_
  repeat' ((fail_if_success (apply ci 19));first|refine st ?_|(refine ca ?_;first|apply hck|apply hcp)|(refine br ?_ ?_<;>intro hb)|fail)
  refine wM (a:=S.length+2) (els:=[.sown (S.length+1) 1 2]) [.agg [.sown (S.length+1) 1 2]] ss rfl ss ?_
  refine ε0 ?_
  refine fR results124 ?_
  exact H.out
 rw [if_neg c2] at h
 have f2:((c:Int)==58)=false:=ν
 rw [if_pos ω] at h
 have d2:decide (57<(c:Int))=false:=τ2
 have hwc:a6.wrap ((c:Int) - 48)=(c:Int) - 48:=cR _ ω
 have hwd:ae.wrap ((c:Int) - 48)=(c:Int) - 48:=ai _ ω
 have hwa:ae.wrap (0+((c:Int) - 48))=(c:Int) - 48:=by rw [Int.zero_add];exact hwd
 have hv:((9999:Int)<(c:Int) - 48)=False:=eq_false ω
 have hv2:(((c:Int) - 48)<9999)=True:=eq_true ω
 rw [show min (max 0 (-1:Int) * 10+((c:Int) - 48)) 9999=(c:Int) - 48 by omega] at h
 obtain⟨v,hvv⟩:∃ v:Int,(c:Int) - 48=v:=⟨_,rfl⟩
 rw [hvv] at hwc hwd hwa hv hv2 h
 have H:=ab h
 clear h c1 c2
 refine eN func124 rfl ntmps124 fun hO=>?_
 have hw0:ae.wrap (10 * if (-1:Int)>0 then -1 else 0)=0:=δ
 repeat' ((fail_if_success (apply ci 20));first|refine st ?_|(refine ca ?_;first|apply hck|apply hcp)|(refine br ?_ ?_<;>intro hb)|fail)
 repeat' first|refine st ?_|(refine br ?_ ?_<;>intro hb)|refine sd ?_|refine sx ?_|apply aw|(apply aF;(· decide +kernel))|refine bd ?_ ?_|fail
 refine fR results124 ?_
 exact H.out
theorem yd(X:List aH)(fr:Nat→Bool):∀ (l:List (List Int)) (b:Nat),(∀ (j:Nat) (s:List Int),l[j]? = some s→X[b+j]? = some (xl s)∧fr (b+j)=true)→(iK b l).map (conv X fr 2)=l.map ct
 | [],_,_=>rfl
 | s::r,b,h=>by
  have h0:=h 0 s rfl
  rw [l8] at h0
  have hr:=yd X fr r (b+1) fun j t ht=>by
   have:=h (j+1) t ht
   rw [show b+(j+1)=b+1+j by omega] at this
   exact this
  have e1:conv X fr 2 (.agg [.sown b 1 s.length])=ct s:=by
   have hp:AV.plain (.agg [.sown b 1 s.length])=false:=rfl
   have hp2:AV.plain (.sown b 1 s.length)=false:=rfl
   have hl:s.length=(s.map ea).length:=χ
   simp only [conv,hp,aZ,if_false,al,aj,hp2,h0.2,if_true,h0.1,xl,ea.plainL,true_and]
   rw [if_pos hl];rfl
  rw [iK,al,al,hr,e1]
theorem EN{X:List aH}{fr:Nat→Bool}{a fz g:Nat}{els:List AV}{rows:List (List Int)}{e:Int}(hX:X[a]? = some (.arr 63 1 fz g els))(hf:fr a=true)(hr:els.map (conv X fr 2)=rows.map ct) :
  conv X fr 4 (.tup [.sown a g els.length,.int .i64 e])=gH (rows,e):=by
 have h1:AV.plain (.tup [.sown a g els.length,.int .i64 e])=false:=by simp [AV.plain,plainL]
 have h2:AV.plain (.sown a g els.length)=false:=rfl
 have h3:conv X fr 3 (.int .i64 e)=.int .i64 e:=by simp [conv,AV.plain]
 have ok:=ct.ok rows
 rw [← hr] at ok
 have hs:conv X fr 3 (.sown a g els.length)=.sval false (rows.map ct):=by
  rw [conv]
  simp only [h2,aZ,if_false,hf,if_true,hX,true_and]
  cases hp:plainL els with
  | true =>
   rw [if_pos rfl]
   have:els.map (conv X fr 2)=els:=by
    have:∀ l:List AV,plainL l=true→l.map (conv X fr 2)=l:=by
     intro l
     induction l with
     | nil=>intro;rfl
     | cons x r ih =>
      intro h
      simp only [plainL,aq] at h
      rw [al,ih h.2]
      unfold conv
      rw [if_pos h.1]
    exact this els hp
   rw [← hr,this]
  | false =>
   rw [if_neg χ,if_pos ok,hr]
 rw [conv]
 simp only [h1,aZ,if_false,al,aj,hs,h3]
 rfl
theorem ui(q:List (List Int) × Int)(n:Nat):(gH q).lt n=true:=by
 simp only [gH,AV.lt,ltL,cG]
 exact c_.2 fun x hx=>by obtain⟨y,_,rfl⟩:=aN.1 hx;exact Ff n y
theorem pE{X:List aH}{fr:Nat→Bool}{a fz g m:Nat}{s:List Int}(hX:X[a]? = some (.arr 3 1 fz g (s.map ea)))(hf:fr a=true)(hm:m=s.length):conv X fr 2 (.agg [.sown a g m])=ct s:=by
 subst hm
 have hp:AV.plain (.agg [.sown a g s.length])=false:=rfl
 have hp2:AV.plain (.sown a g s.length)=false:=rfl
 have hl:s.length=(s.map ea).length:=χ
 simp only [conv,hp,aZ,if_false,al,aj,hp2,hf,if_true,hX,ea.plainL,true_and]
 rw [if_pos hl];rfl
theorem DV{F:Func}(hF:F.results=#[ResultVar.tmp 4,ResultVar.tmp 5]){S S':List aH}{env:du}{R:gL→List aH→Prop}{fz g m:Nat}{els:List AV}{rows:List (List Int)}{e:Int}(e0:env 1000000=.dfr [])(e4:env 4=.sown S.length g m)(e5:env 5=.int .i64 e)
  (hl:∀ j,j<S.length→S'[j]? = S[j]?) (hle:S.length≤S'.length) (hX:S'[S.length]? = some (.arr 63 1 fz g els)) (hm:m=els.length) (hr:els.map (conv S' (fun a=>decide (S.length≤a)) 2)=rows.map ct)
  (h:R (.ret (gH (rows,e))) S):jV prog F S R .ret env S':=by
 subst hm
 refine uJ (S2:=S') (S1:=S) (vs:=[.sown S.length g els.length,.int .i64 e]) e0 rfl ?_ ?_ (EN (rows:=rows) hX χ hr) (ui _ _) ?_ h
 ·rw [hF]
  simp [gr,vu,e4,e5]
 ·intro j B hj hB
  rw [hl j hj] at hB
  exact .inl hB
 ·apply List.ext_getElem?
  intro j
  rw [bc]
  split
  ·next hj=>exact hl j hj
  ·next hj=>rw [bR ω]
theorem DU{F:Func}(hF:F.results=#[ResultVar.tmp 4,ResultVar.tmp 5]){S S':List aH}{env:du}{R:gL→List aH→Prop}{e:Int}(e0:env 1000000=.dfr [])(e4:env 4=.snil)(e5:env 5=.int .i64 e)
  (hl:∀ j,j<S.length→S'[j]? = S[j]?) (hle:S.length≤S'.length) (h:R (.ret (gH ([],e))) S):jV prog F S R .ret env S':=by
 have hc:conv S' (fun a=>decide (S.length≤a)) 4 (.tup [.snil,.int .i64 e])=gH ([],e):=by
  simp [conv,AV.plain,plainL,gH]
 refine uJ (S2:=S') (S1:=S) (vs:=[.snil,.int .i64 e]) e0 rfl ?_ ?_ hc (ui _ _) ?_ h
 ·rw [hF]
  simp [gr,vu,e4,e5]
 ·intro j B hj hB
  rw [hl j hj] at hB
  exact .inl hB
 ·apply List.ext_getElem?
  intro j
  rw [bc]
  split
  ·next hj=>exact hl j hj
  ·next hj=>rw [bR ω]
theorem GD(pre:List (List Int))(q:List Int)(n:Int)(c:Nat)(hc:48≤c∧c≤59)(hok:db (pre++[q++[n]])=true)(h1:pre.length≤15)(h2:q.length≤5)(h6:∀ s∈pre,s.length≤6)(h3 : -1≤n∧n≤9999)(R:Rt)(h:R (.ret (gH (iZ (pre++[q++[n]]) c))) S) :
  ao prog w0 124 [.sval false ((pre++[q++[n]]).map ct),.int .u8 c] S R:=by
 have hck:=fun S'=>o5 w0 S' (pre++[q++[n]])
 unfold mQ at hck
 rw [hok] at hck
 simp only [if_true] at hck
 have hcp:=xp w0 S (pre++[q++[n]]) κ (by
  intro s hs
  rcases bV.1 hs with hs|hs
  ·exact h6 s hs
  ·rw [a_.1 hs];simp;omega)
 have hlen:(pre++[q++[n]]).length=pre.length+1:=χ
 rw [hlen] at hcp
 rw [ip (nC χ)] at h
 have d1:decide ((c:Int)<48)=false:=τ2
 have hw1:ae.wrap (((pre.length+1:Nat):Int) - 1)=(pre.length:Int):=by rw [ai _ ω];omega
 have hw2:ae.wrap (((q.length+1:Nat):Int) - 1)=(q.length:Int):=by rw [ai _ ω];omega
 have e0:(((pre.length+1:Nat):Int)==0)=false:=ν
 have hcl:(lG S.length (pre++[q++[n]])).length=pre.length+2:=by rw [pD,hlen]
 have hA:∀ X:List aH,((S++lG S.length (pre++[q++[n]]))++X)[S.length]? = some (.arr 63 1 0 (pre.length+1) (iK (S.length+1) pre++[.agg [.sown (S.length+(1+pre.length)) 1 (q.length+1)]])):=by
  intro X
  rw [aP,aA (ba _),la]
  simp only [lG,qt,hlen,fQ,List.getElem?_cons_zero,qI,ah,aB,aI]
 have hB:∀ X:List aH,((S++lG S.length (pre++[q++[n]]))++X)[S.length+(1+pre.length)]? = some (.arr 3 1 0 1 ((q++[n]).map ea)):=by
  intro X
  rw [aP,aA ω,show S.length+(1+pre.length) - S.length=1+pre.length by omega]
  rw [Nat.add_comm 1]
  simp [lG,xl]
 have hA0:=hA []
 have hB0:=hB []
 rw [aG] at hA0 hB0
 have hS:∀ (d:Nat) (X:List aH) (B:aH),d<pre.length+2→((S++lG S.length (pre++[q++[n]]))++X).set (S.length+d) B=(S++lG S.length (pre++[q++[n]])).set (S.length+d) B++X:=by
  intro d X B hd
  rw [iP]
  rw [ah,hcl];omega
 have hS1:=fun X B=>hS 0 X B ω
 have hS2:=fun X B=>hS (1+pre.length) X B ω
 rw [l8] at hS1
 have hYl:(iK (S.length+1) pre).length=pre.length:=sU _ _
 have HW:CC ((∀ j,j<S.length→(S++lG S.length (pre++[q++[n]]))[j]? = S[j]?)∧(S++lG S.length (pre++[q++[n]])).length=S.length+pre.length+2∧∀ (j:Nat) (s:List Int),pre[j]? = some s→j<pre.length∧(S++lG S.length (pre++[q++[n]]))[S.length+1+j]? = some (xl s)):=by
  refine ab ⟨fun j hj=>au hj,by rw [ah,hcl];rfl,fun j s hs=>?_⟩
  have hj:j<pre.length:=(af.1 hs).1
  refine⟨hj, ?_⟩
  rw [aA ω,show S.length+1+j - S.length=j+1 by omega,lG,List.getElem?_cons_succ,aJ,au hj,hs]
  rfl
 have HY:=ab (fun (X:List aH) (fr:Nat→Bool)=>yd X fr pre (S.length+1))
 have hA2:∀ (B:aH) (X:List aH),((S++lG S.length (pre++[q++[n]])).set (S.length+(1+pre.length)) B++X)[S.length]? = some (.arr 63 1 0 (pre.length+1) (iK (S.length+1) pre++[.agg [.sown (S.length+(1+pre.length)) 1 (q.length+1)]])):=by
  intro B X
  rw [← hA0,au (by rw [bx,ah,hcl];omega),be ω]
 have hS3:∀ (B:aH) (X:List aH) (B':aH),((S++lG S.length (pre++[q++[n]])).set (S.length+(1+pre.length)) B++X).set S.length B'=((S++lG S.length (pre++[q++[n]])).set (S.length+(1+pre.length)) B).set S.length B'++X:=by
  intro B X B'
  rw [iP]
  rw [bx,ah,hcl];omega
 have hYx:∀ x,(iK (S.length+1) pre++[x])[pre.length]? = some x:=fun x=>by rw [aA ω,hYl,la];rfl
 have hYl2:∀ x,(pre.length+1=(iK (S.length+1) pre++[x]).length)=True:=fun x=>eq_true (by rw [ah,hYl];rfl)
 have hYs:∀ x y,(iK (S.length+1) pre++[x]).set pre.length y=iK (S.length+1) pre++[y]:=fun x y=>by rw [eI _ _ ω,hYl,la];rfl
 have hcn:(bn ea (q++[n]))[q.length]? = some (.int .i64 n):=by simp [ea]
 have hcs:∀ v:Int,(bn ea (q++[n])).set q.length (.int .i64 v)=bn ea (q++[v]):=fun v=>by
  rw [aM,eI _ _ χ];simp [ea]
 have hi1:((pre.length:Int)<((pre.length+1:Nat):Int))=True:=eq_true ω
 have hi2:((q.length:Int)<((q.length+1:Nat):Int))=True:=eq_true ω
 have hlc:(bn ea (q++[n])).length=q.length+1:=χ
 clear hS
 by_cases c1:c=59
 ·subst c1
  rw [if_pos rfl] at h
  by_cases hp:pre.length<15
  ·rw [if_pos hp] at h
   have d2:(((pre.length+1:Nat):Int)==16)=false:=ν
   have H:=ab h
   have hb8:(pre.length+1+1) * 24≤140737488355328:=ω
   clear h hc hok h1 h2 h6 h3 hp
   generalize hYd:iK (S.length+1) pre=Y at *
   generalize hWd:S++lG S.length (pre++[q++[n]])=W at *
   refine eN func124 rfl ntmps124 fun hO=>?_
   refine ε2 hck hcp ?_
   obtain⟨w1,w2,w3⟩:=HW.out
   have g:∀ i,i<W.length→i≠S.length→∀ (A:aH) (X:List aH),(W.set S.length A++X)[i]? = W[i]?:=fun i h1 h2 A X=>by
    rw [au (by rw [bx];exact h1),be (Ne.symm h2)]
   have g0:∀ (A:aH) (X:List aH),(W.set S.length A++X)[S.length]? = some A:=fun A X=>by
    rw [au (by rw [bx];omega),gV ω]
   have g1:∀ (A B:aH) (X:List aH),(W.set S.length A++(B::X))[W.length]? = some B:=fun A B X=>by
    rw [aA (by rw [bx];exact ba _),bx,la];rfl
   refine DV (rows:=pre++[q++[n],[-1]]) results124 ss ss ss (fun j hj=>(g j ω ω _ _).trans (w1 j hj)) (by rw [ah,bx];omega) (g0 _ _) (by simp [hYl]) ?_ H.out
   rw [aM,aM,HY.out _ _ fun j s hs=>⟨(g _ (by have:=(w3 j s hs).1;omega) ω _ _).trans (w3 j s hs).2,τ⟩]
   rw [al,aj,al,aj,pE (s:=q++[n]) ((g _ ω ω _ _).trans hB0) (by simp only [decide_eq_true_eq];omega) χ]
   exact Eq.trans (congrArg (fun z=>_++[z]) (pE (s:=[-1]) (g1 _ _ _) (by simp only [decide_eq_true_eq];omega) rfl)) χ
  ·rw [if_neg hp] at h
   have d2:(((pre.length+1:Nat):Int)==16)=true:=by rw [beq_iff_eq];omega
   have H:=ab h
   clear h hc hok h1 h2 h6 h3 hp
   generalize hYd:iK (S.length+1) pre=Y at *
   generalize hWd:S++lG S.length (pre++[q++[n]])=W at *
   refine eN func124 rfl ntmps124 fun hO=>?_
   refine ε2 hck hcp ?_
   obtain⟨w1,w2,w3⟩:=HW.out
   exact DU results124 ss ss ss w1 ω H.out
 rw [if_neg c1] at h
 have f1:((c:Int)==59)=false:=ν
 have f1':((c:Int) != 59)=true:=by rw [bne_iff_ne];omega
 by_cases c2:c=58
 ·subst c2
  rw [if_pos rfl] at h
  by_cases hp:q.length<5
  ·rw [if_pos hp] at h
   have d2:(((q.length+1:Nat):Int)==6)=false:=ν
   have H:=ab h
   have hb8:(q.length+1+1) * 8≤140737488355328:=ω
   clear h hc hok h1 h2 h6 h3 hp
   generalize hYd:iK (S.length+1) pre=Y at *
   generalize hWd:S++lG S.length (pre++[q++[n]])=W at *
   refine eN func124 rfl ntmps124 fun hO=>?_
   repeat' ((fail_if_success (apply ci 19));first|refine st ?_|(refine ca ?_;first|apply hck|apply hcp)|(refine br ?_ ?_<;>intro hb)|fail)
   refine wM (a:=S.length) (e:=63) (sz:=1) (fz:=0) (g:=pre.length+1) (els:=Y++[.sown (S.length+(1+pre.length)) 2 (q.length+1+1)]) (Y++[.agg [.sown (S.length+(1+pre.length)) 2 (q.length+1+1)]]) ?_ (by simp [AV.cells]) rfl ?_
   ·obtain⟨w1,w2,w3⟩:=HW.out
    rw [au (by rw [bx,bx];omega),gV (by rw [bx];omega)]
   generalize hS':List.set _ S.length (aH.arr 63 1 0 (pre.length+1) (Y++[.agg [.sown (S.length+(1+pre.length)) 2 (q.length+1+1)]]))=S'
   refine ε0 ?_
   obtain⟨w1,w2,w3⟩:=HW.out
   have g:∀ i,i<W.length→i≠S.length→i≠S.length+(1+pre.length)→S'[i]? = W[i]?:=fun i h1 h2 h3=>by
    rw [← hS',be (Ne.symm h2),au (by rw [bx,bx];exact h1),be (Ne.symm h2),be (Ne.symm h3)]
   have g0:S'[S.length]? = some (aH.arr 63 1 0 (pre.length+1) (Y++[.agg [.sown (S.length+(1+pre.length)) 2 (q.length+1+1)]])):=by
    rw [← hS',gV (by rw [ah,bx,bx];omega)]
   have g1:S'[S.length+(1+pre.length)]? = some (aH.arr 3 1 0 2 (bn ea (q++[n,-1]))):=by
    rw [← hS',be ω,au (by rw [bx,bx];omega),be ω,gV ω]
    simp [ea]
   have gl:S.length≤S'.length:=by
    rw [← hS',bx,ah,bx,bx];omega
   refine DV (rows:=pre++[q++[n,-1]]) results124 ss ss ss (fun j hj=>(g j ω ω ω).trans (w1 j hj)) gl g0 (by simp [hYl]) ?_ H.out
   rw [aM,aM,HY.out _ _ fun j s hs=>⟨(g _ (by have:=(w3 j s hs).1;omega) ω (by have:=(w3 j s hs).1;omega)).trans (w3 j s hs).2,τ⟩]
   rw [al,aj,al,aj,pE (s:=q++[n,-1]) g1 (by simp only [decide_eq_true_eq];omega) χ]
  ·rw [if_neg hp] at h
   have d2:(((q.length+1:Nat):Int)==6)=true:=by rw [beq_iff_eq];omega
   have H:=ab h
   clear h hc hok h1 h2 h6 h3 hp
   generalize hYd:iK (S.length+1) pre=Y at *
   generalize hWd:S++lG S.length (pre++[q++[n]])=W at *
   refine eN func124 rfl ntmps124 fun hO=>?_
   refine ε2 hck hcp ?_
   obtain⟨w1,w2,w3⟩:=HW.out
   exact DU results124 ss ss ss w1 ω H.out
 rw [if_neg c2] at h
 have f2:((c:Int)==58)=false:=ν
 rw [if_pos ω] at h
 have d2:decide (57<(c:Int))=false:=τ2
 have hwc:a6.wrap ((c:Int) - 48)=(c:Int) - 48:=cR _ ω
 have hwd:ae.wrap ((c:Int) - 48)=(c:Int) - 48:=ai _ ω
 have hm:(if n>0 then n else 0)=max 0 n:=by split<;>omega
 have hwm:ae.wrap (10 * max 0 n)=10 * max 0 n:=ai _ ω
 have hwa:ae.wrap (10 * max 0 n+((c:Int) - 48))=10 * max 0 n+((c:Int) - 48):=ai _ ω
 have hu:(if 10 * max 0 n+((c:Int) - 48)<9999 then 10 * max 0 n+((c:Int) - 48) else 9999)=min (max 0 n * 10+((c:Int) - 48)) 9999:=by split<;>omega
 obtain⟨v,hvv⟩:∃ v:Int,(c:Int) - 48=v:=⟨_,rfl⟩
 rw [hvv] at hwc hwd hwa hu h
 have H:=ab h
 clear h hok h1 h2 h6 h3 c1 c2
 generalize hYd:iK (S.length+1) pre=Y at *
 generalize hWd:S++lG S.length (pre++[q++[n]])=W at *
 generalize max 0 n=M at *
 generalize min (M * 10+v) 9999=u at *
 refine eN func124 rfl ntmps124 fun hO=>?_
 repeat' ((fail_if_success (apply ci 20));first|refine st ?_|(refine ca ?_;first|apply hck|apply hcp)|(refine br ?_ ?_<;>intro hb)|fail)
 clear hck hcp
 repeat' first|refine st ?_|(refine br ?_ ?_<;>intro hb)|refine sd ?_|refine sx ?_|apply aw|(apply aF;(· decide +kernel))|refine bd ?_ ?_|fail
 obtain⟨w1,w2,w3⟩:=HW.out
 have g:∀ i,i<W.length→i≠S.length+(1+pre.length)→∀ (A:aH),(W.set (S.length+(1+pre.length)) A)[i]? = W[i]?:=fun i h1 h2 A=>be (Ne.symm h2)
 have g1:∀ A:aH,(W.set (S.length+(1+pre.length)) A)[S.length+(1+pre.length)]? = some A:=fun A=>gV ω
 refine DV (rows:=pre++[q++[u]]) results124 ss ss ss (fun j hj=>(g j ω ω _).trans (w1 j hj)) (by rw [bx];omega) ((g _ ω ω _).trans hA0) (by simp [hYl]) ?_ H.out
 rw [aM,aM (f:=ct),HY.out _ _ fun j s hs=>⟨(g _ (by have:=(w3 j s hs).1;omega) (by have:=(w3 j s hs).1;omega) _).trans (w3 j s hs).2,τ⟩]
 rw [al,aj,al,aj,pE (s:=q++[u]) (g1 _) (by simp only [decide_eq_true_eq];omega) χ]
theorem ph{pre:List (List Int)}(h:pre.any iz=false):∀ s∈pre,s.length≤6:=by
 intro s hs
 have:=Jm.1 h s hs
 unfold iz at this
 simp only [ef,not_or,decide_eq_true_eq] at this
 omega
theorem vC(l:List (List Int))(c:Nat)(hc:48≤c∧c≤59)(hok:db l=true)(R:Rt)(h:R (.ret (gH (iZ l c))) S):ao prog w0 124 [.sval false (l.map ct),.int .u8 c] S R:=by
 by_cases hl:l=[]
 ·subst hl;exact GF w0 S c hc R h
 ·obtain⟨pre,q,n,e,h1,h2,h3,h4,_⟩:=mU hok
  rw [nC hl] at e
  subst e
  exact GD w0 S pre q n c hc hok h1 h2 (ph h4) h3 R h
theorem Jb(n:Int)(l:List Int)(a fz g:Nat)(hl:l.length≤100)(hS:S[a]? = some (.arr 3 1 fz g (l.map ea)))(R:Rt)(h:R (.ret (.bool (l.contains n))) S) :
  ao prog w0 56 [.int .i64 n,.sown a g l.length] S R:=by
 have H:=ab h
 have hlc:(l.length=(l.map ea).length)=True:=χ
 clear h
 refine eN func56 rfl ntmps56 fun hO=>?_
 refine ε0 ?_
 refine cD (fun (k:Nat) env S'=>k≤l.length∧(l.take k).contains n=false∧env 1000000=.dfr []∧env 0=.int .i64 n∧env 1=.sown a g l.length∧env 5=.int .i64 (k:Int)∧S'=S) (fun k=>l.length - k) 0 ?_ ?_
 ·exact⟨bf _,rfl,ss,ss,ss,ss,rfl⟩
 ·rintro k env S' ⟨hk,hc,e0,f0,f1,f4,rfl⟩ IH
  have HI:=ab IH
  clear IH
  by_cases hlt:k<l.length
  ·obtain⟨x,hx⟩:∃ x,l[k]? = some x:=⟨_,ap hlt⟩
   have h1:decide ((k:Int)<(l.length:Int))=true:=by simpa using hlt
   have h1':((k:Int)<(l.length:Int))=True:=eq_true ω
   have hw:ae.wrap ((k:Int)+1)=((k+1:Nat):Int):=by rw [ai _ ω];omega
   have qn:(l.map ea)[k]? = some (.int .i64 x):=by rw [aJ,hx];rfl
   by_cases hxn:x=n
   ·have hh:=H.out
    rw [show l.contains n=true by rw [List.contains_iff_mem];rw [← hxn];exact ax hx] at hh
    have hd:(x==n)=true:=by rw [beq_iff_eq];exact hxn
    clear hlt hk HI H hc hx hxn
    refine ε0 ?_
    refine fR results56 ?_
    exact hh
   ·have hd:(x==n)=false:=by rw [beq_eq_false_iff_ne];exact hxn
    have ht:(l.take (k+1)).contains n=false:=by
     rw [jW,hx]
     simp only [iX,List.contains_eq_mem,bV,a_,decide_eq_false_iff_not,not_or] at hc ⊢
     exact⟨hc,fun e=>hxn e.symm⟩
    have Hk:=ab (a7 hlt ht)
    clear hlt hk hc hx hxn ht
    refine ε0 ?_
    exact HI.out (k+1) _ _ (by have:=Hk.out.1;omega) ⟨Hk.out.1,Hk.out.2,ss,ss,ss,ss,rfl⟩
  ·have h1:decide ((k:Int)<(l.length:Int))=false:=by simpa using hlt
   have hh:=H.out
   rw [dJ ω] at hc
   rw [hc] at hh
   clear hlt hk hc HI H
   refine ε0 ?_
   refine fR results56 ?_
   exact hh
end Go.Proofs.YthdbijpefkapnaaGreatDoor
