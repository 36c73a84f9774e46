/- YthdbijpefkapnaaGreatDoorWalk15: a part of the proof. -/
import Derived.Test.YthdbijpefkapnaaGreatDoorWalk10
import Derived.Test.YthdbijpefkapnaaGreatDoorWalk14
import Derived.Test.YthdbijpefkapnaaGreatDoorCore4
import Derived.Test.YthdbijpefkapnaaGreatDoorWalk6
set_option linter.all false
set_option maxHeartbeats 40000000
open Bool renaming and_eq_true → ao, eq_iff_iff → eB, false_eq_true → cg, not_eq_false' → aE, not_eq_true' → aw, or_eq_false_iff → ct, or_eq_true → eF
open Function renaming comp_def → aU
open Go.IntKind renaming i64 → ae
open Go.IntWalk renaming i64_in → ah
open Go.Lib renaming hid → ab
open Go.RowKit renaming Hid → Bt
open Int renaming cast_ofNat_Int → bw
open List renaming all_eq_true → aC, all_map → bu, any_cons → fH, any_eq_false → Eg, append_nil → aG, filter_append → GQ, find?_cons → kK, getElem?_eq_getElem → al, length_append → ai, length_cons → aB, length_map → be, length_nil → aL, map_append → aY, map_cons → ap, map_map → Ef, map_nil → aq, mem_append → cH, mem_map → aM, mem_of_find?_eq_some → nU, mem_of_getElem? → ax, mem_singleton → bk, range → ba, take_add_one → sC, take_of_length_le → dV, take_succ_cons → aZ, take_zero → aP
open Nat renaming le_refl → a8, le_trans → eT, zero_add → bC, zero_le → bf
open Option renaming map_eq_some_iff → aK, map_none → jM, map_some → dd, toList_none → fa, toList_some → ip
namespace Go.Proofs.YthdbijpefkapnaaGreatDoor
open Go Go.Fen Go.Proofs.Tryz
attribute [local irreducible] aW WP aj dS jl cQ aV cV
set_option maxRecDepth 8000
variable (w0:World) (S:List aH)
theorem Ec(a:Ac):a.av.plain=true:=rfl
@[go_sem] theorem Ac.plainL(l:List Ac):plainL (l.map Ac.av)=true:=fA Ec l
@[go_sem] theorem Ac.ltL(l:List Ac)(n:Nat):Go.Fen.ltL n (l.map Ac.av)=true:=db.2 fun x hx=>by obtain⟨y,_,rfl⟩:=aM.1 hx;rfl
@[go_sem] theorem Ac.ok(l:List Ac):cN 6 (l.map Ac.av)=true:=by
 unfold cN;rw [aC];intro x hx;obtain⟨y,_,rfl⟩:=aM.1 hx;rfl
theorem Mv(v:Int):(if (1:Int)<v then v else 1)=max 1 v:=by split<;>omega
theorem q4(l:List (List Int))(k:Int)(R:Rt)(h:R (.ret (bS k (lN l) 0)) S):aj prog w0 143 [.sval false (l.map cB),.pro [.int .i64 k]] S R:=by
 have hac:=xz w0
 have hf:=fun S'=>ju w0 S' l
 have hs:=fun S'=>i_ w0 S' l
 have hc:=fun S'=>gW w0 S' l
 unfold bS at h
 generalize lN l=c at h hc
 have H:=ab h
 clear h
 refine eN func143 rfl ntmps143 fun hO=>?_
 repeat' ((fail_if_success (apply cq 1));first|refine st ?_|(refine br ?_ ?_<;>intro hb)|fail)
 refine gi (n:=5) mixed rfl ?_;refine xd 4 1 rfl (by decide +kernel) (by decide +kernel) (by decide +kernel) ?_
 repeat' first|refine st ?_|(refine ca ?_;first|apply hac|apply hf|apply hs|apply hc)|(refine br ?_ ?_<;>intro hb)|refine sd ?_|apply au|(apply aF;(· decide +kernel))|refine bd ?_ ?_|(refine cd ?_;first|apply hac|apply hf|apply hs|apply hc)|refine sq ?_|(apply ro;(iterate 2 (· simp only [go_sem, *];try rfl));(· rfl);(· simp only [go_sem, *];try rfl);(· rfl);(· rfl);(· simp only [go_sem, *];try rfl);(· intro R hR;(first|apply hac|apply hf|apply hs|apply hc);exact hR))|(refine bq ?_ ?_;all_goals (intro hb;try simp only [aw,aE] at hb))|fail
 refine fR results143 ?_
 exact H.out
theorem q5(l:List (List Int))(k:Int)(R:Rt)(h:R (.ret (bS k (dX l 0 0) 0)) S):aj prog w0 145 [.sval false (l.map cB),.pro [.int .i64 k]] S R:=by
 have hac:=xz w0
 have hf:=fun S'=>ju w0 S' l
 have hs:=fun S'=>i_ w0 S' l
 have hc:=fun S'=>gW w0 S' l
 unfold bS at h
 have H:=ab h
 clear h
 refine eN func145 rfl ntmps145 fun hO=>?_
 repeat' ((fail_if_success (apply cq 1));first|refine st ?_|(refine br ?_ ?_<;>intro hb)|fail)
 refine gi (n:=5) mixed rfl ?_;refine xd 4 1 rfl (by decide +kernel) (by decide +kernel) (by decide +kernel) ?_
 repeat' first|refine st ?_|(refine ca ?_;first|apply hac|apply hf|apply hs|apply hc)|(refine br ?_ ?_<;>intro hb)|refine sd ?_|apply au|(apply aF;(· decide +kernel))|refine bd ?_ ?_|(refine cd ?_;first|apply hac|apply hf|apply hs|apply hc)|refine sq ?_|(apply ro;(iterate 2 (· simp only [go_sem, *];try rfl));(· rfl);(· simp only [go_sem, *];try rfl);(· rfl);(· rfl);(· simp only [go_sem, *];try rfl);(· intro R hR;(first|apply hac|apply hf|apply hs|apply hc);exact hR))|(refine bq ?_ ?_;all_goals (intro hb;try simp only [aw,aE] at hb))|fail
 refine fR results145 ?_
 exact H.out
theorem q6(l:List (List Int))(k n:Int)(R:Rt)(h:R (.ret (bS k n (lN l))) S):aj prog w0 147 [.sval false (l.map cB),.pro [.int .i64 k,.int .i64 n,.int .i64 0,.int .i64 0,.int .i64 0,.str []]] S R:=by
 have hac:=xz w0
 have hf:=fun S'=>ju w0 S' l
 have hs:=fun S'=>i_ w0 S' l
 have hc:=fun S'=>gW w0 S' l
 unfold bS at h
 generalize lN l=c at h hc
 have H:=ab h
 clear h
 refine eN func147 rfl ntmps147 fun hO=>?_
 repeat' ((fail_if_success (apply cq 1));first|refine st ?_|(refine br ?_ ?_<;>intro hb)|fail)
 refine gi (n:=8) mixed rfl ?_;refine xd 7 1 rfl (by decide +kernel) (by decide +kernel) (by decide +kernel) ?_
 repeat' first|refine st ?_|(refine ca ?_;first|apply hac|apply hf|apply hs|apply hc)|(refine br ?_ ?_<;>intro hb)|refine sd ?_|apply au|(apply aF;(· decide +kernel))|refine bd ?_ ?_|(refine cd ?_;first|apply hac|apply hf|apply hs|apply hc)|refine sq ?_|(apply ro;(iterate 2 (· simp only [go_sem, *];try rfl));(· rfl);(· simp only [go_sem, *];try rfl);(· rfl);(· rfl);(· simp only [go_sem, *];try rfl);(· intro R hR;(first|apply hac|apply hf|apply hs|apply hc);exact hR))|(refine bq ?_ ?_;all_goals (intro hb;try simp only [aw,aE] at hb))|fail
 refine fR results147 ?_
 exact H.out
theorem q7(l:List (List Int))(R:Rt)(h:R (.ret (bS 19 (lN l) (max 1 (dX l 1 0)))) S):aj prog w0 148 [.sval false (l.map cB)] S R:=by
 have hac:=xz w0
 have hf:=fun S'=>ju w0 S' l
 have hs:=fun S'=>i_ w0 S' l
 have hc:=fun S'=>gW w0 S' l
 unfold bS at h
 generalize lN l=c at h hc
 rw [← Mv] at h
 obtain⟨v,hv⟩:∃ v,(if (1:Int)<dX l 1 0 then dX l 1 0 else 1)=v:=⟨_,rfl⟩
 rw [hv] at h
 have H:=ab h
 clear h
 refine eN func148 rfl ntmps148 fun hO=>?_
 repeat' first|refine st ?_|(refine ca ?_;first|apply hac|apply hf|apply hs|apply hc)|(refine br ?_ ?_<;>intro hb)|fail
 refine fR results148 ?_
 exact H.out
theorem q9(l:List (List Int))(R:Rt)(h:R (.ret (bS 38 (dX l 0 0) (dX l 1 0))) S):aj prog w0 151 [.sval false (l.map cB)] S R:=by
 have hac:=xz w0
 have hf:=fun S'=>ju w0 S' l
 have hs:=fun S'=>i_ w0 S' l
 have hc:=fun S'=>gW w0 S' l
 unfold bS at h
 have H:=ab h
 clear h
 refine eN func151 rfl ntmps151 fun hO=>?_
 repeat' first|refine st ?_|(refine ca ?_;first|apply hac|apply hf|apply hs|apply hc)|(refine br ?_ ?_<;>intro hb)|fail
 refine fR results151 ?_
 exact H.out
theorem PX(l:List (List Int))(R:Rt)(h:R (.ret (bS 12 0 0)) S):aj prog w0 152 [.sval false (l.map cB)] S R:=by
 have hac:=xz w0
 have hf:=fun S'=>ju w0 S' l
 have hs:=fun S'=>i_ w0 S' l
 have hc:=fun S'=>gW w0 S' l
 unfold bS at h
 have H:=ab h
 clear h
 refine eN func152 rfl ntmps152 fun hO=>?_
 repeat' first|refine st ?_|(refine ca ?_;first|apply hac|apply hf|apply hs|apply hc)|(refine br ?_ ?_<;>intro hb)|fail
 refine fR results152 ?_
 exact H.out
theorem PW(l:List (List Int))(R:Rt)(h:R (.ret (bS 13 0 0)) S):aj prog w0 153 [.sval false (l.map cB)] S R:=by
 have hac:=xz w0
 have hf:=fun S'=>ju w0 S' l
 have hs:=fun S'=>i_ w0 S' l
 have hc:=fun S'=>gW w0 S' l
 unfold bS at h
 have H:=ab h
 clear h
 refine eN func153 rfl ntmps153 fun hO=>?_
 repeat' first|refine st ?_|(refine ca ?_;first|apply hac|apply hf|apply hs|apply hc)|(refine br ?_ ?_<;>intro hb)|fail
 refine fR results153 ?_
 exact H.out
theorem PU(l:List (List Int))(R:Rt)(h:R (.ret (bS 40 (dX l 0 0) 0)) S):aj prog w0 156 [.sval false (l.map cB)] S R:=by
 have hac:=xz w0
 have hf:=fun S'=>ju w0 S' l
 have hs:=fun S'=>i_ w0 S' l
 have hc:=fun S'=>gW w0 S' l
 unfold bS at h
 have H:=ab h
 clear h
 refine eN func156 rfl ntmps156 fun hO=>?_
 repeat' first|refine st ?_|(refine ca ?_;first|apply hac|apply hf|apply hs|apply hc)|(refine br ?_ ?_<;>intro hb)|fail
 refine fR results156 ?_
 exact H.out
theorem PT(l:List (List Int))(R:Rt)(h:R (.ret (bS 15 0 0)) S):aj prog w0 157 [.sval false (l.map cB)] S R:=by
 have hac:=xz w0
 have hf:=fun S'=>ju w0 S' l
 have hs:=fun S'=>i_ w0 S' l
 have hc:=fun S'=>gW w0 S' l
 unfold bS at h
 have H:=ab h
 clear h
 refine eN func157 rfl ntmps157 fun hO=>?_
 repeat' first|refine st ?_|(refine ca ?_;first|apply hac|apply hf|apply hs|apply hc)|(refine br ?_ ?_<;>intro hb)|fail
 refine fR results157 ?_
 exact H.out
theorem PS(l:List (List Int))(n:Int)(R:Rt)(h:R (.ret (bS 43 (dX l 0 0) n)) S):aj prog w0 158 [.sval false (l.map cB),.pro [.int .i64 n]] S R:=by
 have hac:=xz w0
 have hf:=fun S'=>ju w0 S' l
 have hs:=fun S'=>i_ w0 S' l
 have hc:=fun S'=>gW w0 S' l
 unfold bS at h
 have H:=ab h
 clear h
 refine eN func158 rfl ntmps158 fun hO=>?_
 repeat' ((fail_if_success (apply cq 1));first|refine st ?_|(refine br ?_ ?_<;>intro hb)|fail)
 refine gi (n:=5) mixed rfl ?_;refine xd 4 1 rfl (by decide +kernel) (by decide +kernel) (by decide +kernel) ?_
 repeat' first|refine st ?_|(refine ca ?_;first|apply hac|apply hf|apply hs|apply hc)|(refine br ?_ ?_<;>intro hb)|refine sd ?_|apply au|(apply aF;(· decide +kernel))|refine bd ?_ ?_|(refine cd ?_;first|apply hac|apply hf|apply hs|apply hc)|refine sq ?_|(apply ro;(iterate 2 (· simp only [go_sem, *];try rfl));(· rfl);(· simp only [go_sem, *];try rfl);(· rfl);(· rfl);(· simp only [go_sem, *];try rfl);(· intro R hR;(first|apply hac|apply hf|apply hs|apply hc);exact hR))|(refine bq ?_ ?_;all_goals (intro hb;try simp only [aw,aE] at hb))|fail
 refine fR results158 ?_
 exact H.out
theorem tn(l:List (List Int))(g:FuncId)(k n m:Int)(hg:∀ (S':List aH) (R:Rt),R (.ret (bS k n m)) S'→aj prog w0 g [.sval false (l.map cB)] S' R)(R:Rt)(h:R (.ret (.sval false [bS k n m])) S):aj prog w0 139 [.sval false (l.map cB),.pro [.fn (.func g) [] []]] S R:=by
 unfold bS at hg h
 refine eN func139 rfl ntmps139 fun hO=>?_
 repeat' first|refine st ?_|(refine ca ?_;apply hg)|(refine br ?_ ?_<;>intro hb)|fail
 refine fR results139 ?_
 exact h
theorem CV(l:List (List Int))(g:FuncId)(a:Int)(k n m:Int)(hg:∀ (S':List aH) (R:Rt),R (.ret (bS k n m)) S'→aj prog w0 g [.sval false (l.map cB),.pro [.int .i64 a]] S' R)(R:Rt)(h:R (.ret (.sval false [bS k n m])) S):aj prog w0 139 [.sval false (l.map cB),.pro [.fn (.func g) [] [.pro [.int .i64 a]]]] S R:=by
 unfold bS at hg h
 refine eN func139 rfl ntmps139 fun hO=>?_
 repeat' first|refine st ?_|(refine ca ?_;apply hg)|(refine br ?_ ?_<;>intro hb)|fail
 refine fR results139 ?_
 exact h
theorem KF(l:List (List Int))(g:FuncId)(a b:Int)(k n m:Int)(hg:∀ (S':List aH) (R:Rt),R (.ret (bS k n m)) S'→aj prog w0 g [.sval false (l.map cB),.pro [.int .i64 a,.int .i64 b,.int .i64 0,.int .i64 0,.int .i64 0,.str []]] S' R)(R:Rt)(h:R (.ret (.sval false [bS k n m])) S):aj prog w0 139 [.sval false (l.map cB),.pro [.fn (.func g) [] [.pro [.int .i64 a,.int .i64 b,.int .i64 0,.int .i64 0,.int .i64 0,.str []]]]] S R:=by
 unfold bS at hg h
 refine eN func139 rfl ntmps139 fun hO=>?_
 repeat' first|refine st ?_|(refine ca ?_;apply hg)|(refine br ?_ ?_<;>intro hb)|fail
 refine fR results139 ?_
 exact h
theorem q8(l:List (List Int))(n:Int)(R:Rt)(h:R (.ret (.sval false ((jr (.ask n) l).map Ac.av))) S):aj prog w0 150 [.sval false (l.map cB),.pro [.int .i64 n]] S R:=by
 have hac:=xz w0
 have hf:=fun S'=>ju w0 S' l
 unfold jr at h
 by_cases hz:dX l 0 0=0
 ·simp only [hz,if_true,ap,aq,iU,bS] at h
  rw [hz] at hf
  clear hz
  refine eN func150 rfl ntmps150 fun hO=>?_
  repeat' first|refine st ?_|(refine ca ?_;first|apply hac|apply hf)|(refine br ?_ ?_<;>intro hb)|fail
  refine fR results150 ?_
  exact h
 ·simp only [hz,if_false,aq] at h
  have hb:(dX l 0 0 != 0)=true:=by simpa using hz
  clear hz
  refine eN func150 rfl ntmps150 fun hO=>?_
  repeat' first|refine st ?_|(refine ca ?_;first|apply hac|apply hf)|(refine br ?_ ?_<;>intro hb)|fail
  refine fR results150 ?_
  exact h
theorem PQ(l:List (List Int))(k b:Int)(hl:l.length≤100000)(R:Rt)(h:R (.ret (.sval false ((jr (.modes k b) l).map Ac.av))) S):aj prog w0 141 [.sval false (l.map cB),.pro [.int .i64 k],.pro [.int .i64 b]] S R:=by
 have hac:=xz w0
 unfold jr at h
 simp only [Ef,aU,iU] at h
 have hv:=fun (i:Nat) S' R h=>(kO w0 S' l (i:Int) 0 R h).1
 obtain⟨n,hn⟩:∃ n,max 1 l.length=n:=⟨_,rfl⟩
 rw [hn] at h
 have hm:(if (1:Int)<(l.length:Int) then (l.length:Int) else 1)=(n:Int):=by subst hn;split<;>omega
 have hn2:n≤100001:=by omega
 have H:=ab h
 clear h hl hn
 refine eN func141 rfl ntmps141 fun hO=>?_
 repeat' first|refine st ?_|(refine br ?_ ?_<;>intro hb)|fail
 refine jp (t:=4) (e:=25) (sz:=6) ss (by decide) ?_
 refine cW (fun (j:Nat) env S'=>j≤n∧env 1000000=.dfr []∧env 0=.sval false (l.map cB)∧env 1=.pro [.int .i64 k]∧env 2=.pro [.int .i64 b]∧env 4=.sown S.length j j∧env 8=.int .i64 (n:Int)∧env 9=.int .i64 (j:Int)∧S'=S++[.arr 25 6 0 j ((ba j).map fun (i:Nat)=>bS k (dX l (i:Int) 0) b)]) (fun j=>n - j) 0 ?_ ?_
 ·exact⟨bf _,ss,ss,ss,ss,ss,ss,ss,rfl⟩
 ·rintro j env S' ⟨hj,e0,f0,f1,f2,f4,f8,f9,rfl⟩ IH
  have HI:=ab IH
  clear IH
  have hok:cN 6 ((ba j).map fun (i:Nat)=>bS k (dX l (i:Int) 0) b)=true:=by
   unfold cN;rw [aC];intro x hx;obtain⟨y,_,rfl⟩:=aM.1 hx;rfl
  have hlt2:∀ m,Go.Fen.ltL m ((ba j).map fun (i:Nat)=>bS k (dX l (i:Int) 0) b)=true:=fun m=>db.2 fun x hx=>by obtain⟨y,_,rfl⟩:=aM.1 hx;rfl
  have hpl:plainL ((ba j).map fun (i:Nat)=>bS k (dX l (i:Int) 0) b)=true:=fA (fun _=>rfl) _
  have hle:((ba j).map fun (i:Nat)=>bS k (dX l (i:Int) 0) b).length=j:=by simp
  have Hsu:Bt (((ba (j+1)).map fun (i:Nat)=>bS k (dX l (i:Int) 0) b)=((ba j).map fun (i:Nat)=>bS k (dX l (i:Int) 0) b)++[bS k (dX l (j:Int) 0) b]):=ab (by rw [List.range_succ,aY];rfl)
  generalize hL:((ba j).map fun (i:Nat)=>bS k (dX l (i:Int) 0) b)=L at hok hlt2 hpl hle Hsu ⊢
  by_cases hlt:j<n
  ·have h1:decide ((j:Int)<(n:Int))=true:=by simpa using hlt
   have hw:ae.wrap ((j:Int)+1)=((j+1:Nat):Int):=by rw [ah _ (by omega)];omega
   have hb:(j+1) * 56≤140737488355328:=by omega
   have hvj:=hv j
   have Hlt:=ab hlt
   clear hlt hj hv hL hm hn2
   repeat' first|refine st ?_|(refine ca ?_;first|apply hac|apply hvj)|(refine br ?_ ?_<;>intro hb)|refine sd ?_|apply au|(apply aF;(· decide +kernel))|refine bd ?_ ?_|(refine cd ?_;first|apply hac|apply hvj)|fail
   refine cw hO 1 [0,1,2,4,8,9] rfl ss ss ?_ ?_
   ·(simp only [go_sem, *];try rfl)
   simp only [aZ,aP]
   refine HI.out (j+1) _ _ (by have:=Hlt.out;omega) ⟨Hlt.out, ?_, ?_, ?_, ?_, ?_, ?_, ?_, ?_⟩
   ·(simp only [go_sem, *];try rfl)
   ·(simp only [go_sem, *];try rfl)
   ·(simp only [go_sem, *];try rfl)
   ·(simp only [go_sem, *];try rfl)
   ·(simp only [go_sem, *];try rfl)
   ·(simp only [go_sem, *];try rfl)
   ·(simp only [go_sem, *];try rfl)
   ·rw [Hsu.out];rfl
  ·have h1:decide ((j:Int)<(n:Int))=false:=by simpa using hlt
   have hje:j=n:=by omega
   subst hje
   have H2:=H.out
   rw [hL] at H2
   clear hlt hj hv hL hm hn2 HI H
   repeat' first|refine st ?_|(refine br ?_ ?_<;>intro hb)|fail
   refine fE results141 ?_
   exact H2
def sy(w0:World):Prop:=∀ (S:List aH) (l:List (List Int)),dQ l=true→∀ (R:Rt),R (.ret (.tup [.sval false ((jS l).map Ac.av),.int .i64 0])) S→aj prog w0 155 [.sval false (l.map cB)] S R
theorem rO(c:Int):∀ l:List (Int × Ac),(l.map fun p=>((.int .i64 p.1:AV),p.2.av)).find? (fun e=>ku (.int .i64 c) e.1)=(l.find? fun p=>c==p.1).map fun p=>((.int .i64 p.1:AV),p.2.av)
 | []=>rfl
 | p::l=>by
  rw [ap,kK,kK,rO c l]
  show (match c==p.1 with|true=>_|false=>_)=_
  cases c==p.1<;>rfl
theorem H0(a b:Wy):ku a.av b.av=(a==b):=by
 obtain⟨p,i,f⟩:=a
 obtain⟨p',i',f'⟩:=b
 rw [eB]
 simp only [Wy.av,ku,rK,sR,ao,beq_iff_eq,Wy.mk.injEq,and_true,Int.ofNat_inj,Int.natCast_inj]
theorem vb{α:Type}(f:α→AV)(w:Wy):∀ l:List (Wy × α),(l.map fun p=>(p.1.av,f p.2)).find? (fun e=>ku w.av e.1)=(l.find? fun p=>w==p.1).map fun p=>(p.1.av,f p.2)
 | []=>rfl
 | p::l=>by
  rw [ap,kK,kK,vb f w l,H0]
  cases w==p.1<;>rfl
theorem BQ(w:Wy):eX prog 140 w.av=true:=jB _ _ _
theorem Bd(c:Int):(uI.find? (fun e=>ku (.int .i64 c) e.1)=(vm.find? fun p=>c==p.1).map fun p=>((.int .i64 p.1:AV),p.2.av))∧uI.all (fun e=>eX prog 3 e.1)=true:=by
 constructor
 ·exact rO c vm
 ·unfold uI
  rw [bu]
  exact aC.2 fun p _=>by simp only [eX,aU,go_sem]
theorem A7(w:Wy):(Gm.find? (fun e=>ku w.av e.1)=(wX.find? fun p=>w==p.1).map fun p=>(p.1.av,p.2.av))∧Gm.all (fun e=>eX prog 140 e.1)=true:=by
 constructor
 ·exact vb Ac.av w wX
 ·unfold Gm
  rw [bu]
  exact aC.2 fun p _=>BQ _
theorem Av(w:Wy):(EH.find? (fun e=>ku w.av e.1)=(qw.find? fun p=>w==p.1).map fun p=>(p.1.av,ur p.2))∧EH.all (fun e=>eX prog 140 e.1)=true:=by
 constructor
 ·exact vb ur w qw
 ·unfold EH
  rw [bu]
  exact aC.2 fun p _=>BQ _
theorem iM{α β:Type}(f:α × β→Bool)(l:List (α × β)):l.find? f=none∨∃ j a,l.find? f=some (j,a):=by
 cases l.find? f with
 | none=>exact .inl rfl
 | some q=>exact .inr ⟨q.1,q.2,rfl⟩
theorem LG(c:Int)(pr fi:Nat)(pars:List (List Int))(it tx:List UInt8)(R:Rt)(h:R (.ret (.sval false ([gy 1 c 0].map Ac.av))) S):aj prog w0 34 [.agg [.int .i64 1,.int .i64 c,.int .u8 pr,.int .u8 fi,.sval false (pars.map cB),.str it,.str tx]] S R:=by
 have hac:=xz w0
 simp only [ap,aq,iU,bS] at h
 refine eN func34 rfl ntmps34 fun hO=>?_
 repeat' first|refine st ?_|(refine ca ?_;apply hac)|(refine br ?_ ?_<;>intro hb)|fail
 all_goals refine fR results34 ?_
 all_goals exact h
theorem LF(c:Int)(pr fi:Nat)(pars:List (List Int))(it tx:List UInt8)(R:Rt)(h:R (.ret (.sval false ((sV c).toList.map Ac.av))) S):aj prog w0 34 [.agg [.int .i64 2,.int .i64 c,.int .u8 pr,.int .u8 fi,.sval false (pars.map cB),.str it,.str tx]] S R:=by
 have hp:=J7 w0
 obtain⟨hf,ha⟩:=Bd c
 unfold sV at h
 rcases iM (fun p=>c==p.1) vm with hl|⟨j,a,hl⟩
 ·rw [hl] at hf h
  simp only [jM,fa,aq] at hf h
  simp only [go_sem] at hf ha
  clear hl
  refine eN func34 rfl ntmps34 fun hO=>?_
  repeat' first|refine st ?_|(refine ca ?_;apply hp)|(refine br ?_ ?_<;>intro hb)|refine sd ?_|refine sx ?_|apply au|(apply aF;(· decide +kernel))|refine bd ?_ ?_|(refine cd ?_;apply hp)|fail
  all_goals refine fR results34 ?_
  all_goals exact h
 ·rw [hl] at hf h
  obtain⟨k1,k2,k3,k4,k5,k6⟩:=a
  simp only [dd,ip,ap,aq,Ac.av] at hf h
  simp only [go_sem] at hf ha
  clear hl
  refine eN func34 rfl ntmps34 fun hO=>?_
  repeat' first|refine st ?_|(refine ca ?_;apply hp)|(refine br ?_ ?_<;>intro hb)|refine sd ?_|refine sx ?_|apply au|(apply aF;(· decide +kernel))|refine bd ?_ ?_|(refine cd ?_;apply hp)|fail
  all_goals refine fR results34 ?_
  all_goals exact h
theorem LD(c:Int)(pr fi:Nat)(pars:List (List Int))(it tx:List UInt8)(R:Rt)(h:R (.ret (.sval false ((qy ⟨0,it,fi⟩).toList.map Ac.av))) S):aj prog w0 34 [.agg [.int .i64 3,.int .i64 c,.int .u8 pr,.int .u8 fi,.sval false (pars.map cB),.str it,.str tx]] S R:=by
 have hp:=D8 w0
 obtain⟨hf,ha⟩:=A7 ⟨0,it,fi⟩
 unfold qy at h
 rcases iM (fun p=>(⟨0,it,fi⟩:Wy)==p.1) wX with hl|⟨j,a,hl⟩
 ·rw [hl] at hf h
  simp only [jM,fa,aq] at hf h
  simp only [Wy.av,bw,go_sem] at hf ha
  clear hl
  refine eN func34 rfl ntmps34 fun hO=>?_
  repeat' first|refine st ?_|(refine ca ?_;apply hp)|(refine br ?_ ?_<;>intro hb)|refine sd ?_|refine sx ?_|apply au|(apply aF;(· decide +kernel))|refine bd ?_ ?_|(refine cd ?_;apply hp)|fail
  all_goals refine fR results34 ?_
  all_goals exact h
 ·rw [hl] at hf h
  obtain⟨k1,k2,k3,k4,k5,k6⟩:=a
  simp only [dd,ip,ap,aq,Ac.av] at hf h
  simp only [Wy.av,bw,go_sem] at hf ha
  clear hl
  refine eN func34 rfl ntmps34 fun hO=>?_
  repeat' first|refine st ?_|(refine ca ?_;apply hp)|(refine br ?_ ?_<;>intro hb)|refine sd ?_|refine sx ?_|apply au|(apply aF;(· decide +kernel))|refine bd ?_ ?_|(refine cd ?_;apply hp)|fail
  all_goals refine fR results34 ?_
  all_goals exact h
theorem LA(c:Int)(pr fi:Nat)(pars:List (List Int))(it tx:List UInt8)(hQ:lz w0)(ht:tx.length≤8192)(R:Rt)(h:R (.ret (.sval false ((ea tx).toList.map Ac.av))) S):aj prog w0 34 [.agg [.int .i64 5,.int .i64 c,.int .u8 pr,.int .u8 fi,.sval false (pars.map cB),.str it,.str tx]] S R:=by
 have hp:=fun S'=>hQ S' tx ht
 cases hl:ea tx with
 | none =>
  rw [hl] at hp h
  simp only [sO,zeroA,Ac.av,fa,aq] at hp h
  clear hl
  refine eN func34 rfl ntmps34 fun hO=>?_
  repeat' first|refine st ?_|(refine ca ?_;apply hp)|(refine br ?_ ?_<;>intro hb)|fail
  all_goals refine fR results34 ?_
  all_goals exact h
 | some a =>
  rw [hl] at hp h
  obtain⟨k1,k2,k3,k4,k5,k6⟩:=a
  simp only [sO,Ac.av,ip,ap,aq] at hp h
  clear hl
  refine eN func34 rfl ntmps34 fun hO=>?_
  repeat' first|refine st ?_|(refine ca ?_;apply hp)|(refine br ?_ ?_<;>intro hb)|fail
  all_goals refine fR results34 ?_
  all_goals exact h
theorem LH(k:Int)(h1:(k==1)=false)(h2:(k==2)=false)(h3:(k==3)=false)(h4:(k==4)=false)(h5:(k==5)=false)(w0:World)(S:List aH)(c:Int)(pr fi:Nat)(pars:List (List Int))(it tx:List UInt8)(R:Rt)(h:R (.ret (.sval false (([]:List Ac).map Ac.av))) S):aj prog w0 34 [.agg [.int .i64 k,.int .i64 c,.int .u8 pr,.int .u8 fi,.sval false (pars.map cB),.str it,.str tx]] S R:=by
 simp only [aq] at h
 refine eN func34 rfl ntmps34 fun hO=>?_
 repeat' first|refine st ?_|(refine br ?_ ?_<;>intro hb)|fail
 all_goals refine fR results34 ?_
 all_goals exact h
theorem xj{w:Wy}{k:Int}(h:od w=some (.const k)):k=12∨k=13∨k=15:=by
 unfold od at h
 obtain⟨p,hp,e⟩:=aK.1 h
 have hm:=nU hp
 have hall:(qw.all fun p=>match p.2 with | .const k=>k==12||(k==13||k==15)|_=>true)=true:=by decide
 have:=aC.1 hall p hm
 rw [e] at this
 simpa using this
theorem PV(w0:World)(hP:sy w0)(S:List aH)(l:List (List Int))(hl:dQ l=true)(R:Rt)(h:R (.ret (.sval false ((jS l).map Ac.av))) S):aj prog w0 154 [.sval false (l.map cB)] S R:=by
 have hp:=fun S'=>hP S' l hl
 generalize jS l=x at h hp
 clear hP hl
 refine eN func154 rfl ntmps154 fun hO=>?_
 repeat' first|refine st ?_|(refine ca ?_;apply hp)|(refine br ?_ ?_<;>intro hb)|fail
 refine fR results154 ?_
 exact h
theorem LC(c:Int)(pr fi:Nat)(pars:List (List Int))(it tx:List UInt8)(hok:dQ pars=true)(hP:od ⟨pr,it,fi⟩=some .pens→sy w0)(R:Rt)(h:R (.ret (.sval false ((vp ⟨4,c,pr,fi,pars,it,tx⟩).map Ac.av))) S):aj prog w0 34 [.agg [.int .i64 4,.int .i64 c,.int .u8 pr,.int .u8 fi,.sval false (pars.map cB),.str it,.str tx]] S R:=by
 have hp:=Lx w0
 obtain⟨hf,ha⟩:=Av ⟨pr,it,fi⟩
 have hlen:pars.length≤100000:=by
  unfold dQ at hok
  simp only [ao,decide_eq_true_eq] at hok
  omega
 have hq:vp ⟨4,c,pr,fi,pars,it,tx⟩=match od ⟨pr,it,fi⟩ with|some q=>jr q pars|none=>[]:=rfl
 have hcc:=fun k=>xj (w:=⟨pr,it,fi⟩) (k:=k)
 rw [hq] at h
 clear hq
 unfold od at h hP hcc
 rcases iM (fun p=>(⟨pr,it,fi⟩:Wy)==p.1) qw with hl|⟨j,q,hl⟩
 ·rw [hl] at hf h
  simp only [jM,aq] at hf h
  simp only [Wy.av,bw,go_sem] at hf ha
  clear hl hP hcc hok hlen
  refine eN func34 rfl ntmps34 fun hO=>?_
  repeat' first|refine st ?_|(refine ca ?_;apply hp)|(refine br ?_ ?_<;>intro hb)|refine sd ?_|refine sx ?_|apply au|(apply aF;(· decide +kernel))|refine bd ?_ ?_|(refine cd ?_;apply hp)|fail
  all_goals refine fR results34 ?_
  all_goals exact h
 ·rw [hl] at hf h hP hcc
  simp only [dd] at hf h hP hcc
  clear hl
  cases q with
  | cnt k =>
   have hk:=fun S'=>CV w0 S' pars _ k k (lN pars) 0 (fun S'=>q4 w0 S' pars k)
   simp only [jr,ap,aq,iU] at h
   simp only [bS] at h hk
   simp only [Wy.av,bw,ur,gv,go_sem] at hf ha
   clear hP hcc hok hlen
   refine eN func34 rfl ntmps34 fun hO=>?_
   repeat' first|refine st ?_|(refine ca ?_;first|apply hp|apply hk)|(refine br ?_ ?_<;>intro hb)|refine sd ?_|refine sx ?_|apply au|(apply aF;(· decide +kernel))|refine bd ?_ ?_|(refine cd ?_;first|apply hp|apply hk)|fail
   all_goals refine fR results34 ?_
   all_goals exact h
  | first k =>
   have hk:=fun S'=>CV w0 S' pars _ k k (dX pars 0 0) 0 (fun S'=>q5 w0 S' pars k)
   simp only [jr,ap,aq,iU] at h
   simp only [bS] at h hk
   simp only [Wy.av,bw,ur,gv,go_sem] at hf ha
   clear hP hcc hok hlen
   refine eN func34 rfl ntmps34 fun hO=>?_
   repeat' first|refine st ?_|(refine ca ?_;first|apply hp|apply hk)|(refine br ?_ ?_<;>intro hb)|refine sd ?_|refine sx ?_|apply au|(apply aF;(· decide +kernel))|refine bd ?_ ?_|(refine cd ?_;first|apply hp|apply hk)|fail
   all_goals refine fR results34 ?_
   all_goals exact h
  | way k n =>
   have hk:=fun S'=>KF w0 S' pars _ k n k n (lN pars) (fun S'=>q6 w0 S' pars k n)
   simp only [jr,ap,aq,iU] at h
   simp only [bS] at h hk
   simp only [Wy.av,bw,ur,gv,go_sem] at hf ha
   clear hP hcc hok hlen
   refine eN func34 rfl ntmps34 fun hO=>?_
   repeat' first|refine st ?_|(refine ca ?_;first|apply hp|apply hk)|(refine br ?_ ?_<;>intro hb)|refine sd ?_|refine sx ?_|apply au|(apply aF;(· decide +kernel))|refine bd ?_ ?_|(refine cd ?_;first|apply hp|apply hk)|fail
   all_goals refine fR results34 ?_
   all_goals exact h
  | cursor =>
   have hk:=fun S'=>tn w0 S' pars _ 19 (lN pars) (max 1 (dX pars 1 0)) (fun S'=>q7 w0 S' pars)
   simp only [jr,ap,aq,iU] at h
   simp only [bS] at h hk
   simp only [Wy.av,bw,ur,gv,go_sem] at hf ha
   clear hP hcc hok hlen
   refine eN func34 rfl ntmps34 fun hO=>?_
   repeat' first|refine st ?_|(refine ca ?_;first|apply hp|apply hk)|(refine br ?_ ?_<;>intro hb)|refine sd ?_|refine sx ?_|apply au|(apply aF;(· decide +kernel))|refine bd ?_ ?_|(refine cd ?_;first|apply hp|apply hk)|fail
   all_goals refine fR results34 ?_
   all_goals exact h
  | modes k b =>
   have hk:=fun S'=>PQ w0 S' pars k b hlen
   simp only [Wy.av,bw,ur,gv,go_sem] at hf ha
   have h:R (.ret (.sval false ((jr (.modes k b) pars).map Ac.av))) S:=h
   generalize jr (.modes k b) pars=z at h hk
   clear hP hcc hok hlen
   refine eN func34 rfl ntmps34 fun hO=>?_
   repeat' first|refine st ?_|(refine ca ?_;first|apply hp|apply hk)|(refine br ?_ ?_<;>intro hb)|refine sd ?_|refine sx ?_|apply au|(apply aF;(· decide +kernel))|refine bd ?_ ?_|(refine cd ?_;first|apply hp|apply hk)|fail
   all_goals refine fR results34 ?_
   all_goals exact h
  | ask n =>
   have hk:=fun S'=>q8 w0 S' pars n
   simp only [Wy.av,bw,ur,gv,go_sem] at hf ha
   have h:R (.ret (.sval false ((jr (.ask n) pars).map Ac.av))) S:=h
   generalize jr (.ask n) pars=z at h hk
   clear hP hcc hok hlen
   refine eN func34 rfl ntmps34 fun hO=>?_
   repeat' first|refine st ?_|(refine ca ?_;first|apply hp|apply hk)|(refine br ?_ ?_<;>intro hb)|refine sd ?_|refine sx ?_|apply au|(apply aF;(· decide +kernel))|refine bd ?_ ?_|(refine cd ?_;first|apply hp|apply hk)|fail
   all_goals refine fR results34 ?_
   all_goals exact h
  | margins =>
   have hk:=fun S'=>tn w0 S' pars _ 38 (dX pars 0 0) (dX pars 1 0) (fun S'=>q9 w0 S' pars)
   simp only [jr,ap,aq,iU] at h
   simp only [bS] at h hk
   simp only [Wy.av,bw,ur,gv,go_sem] at hf ha
   clear hP hcc hok hlen
   refine eN func34 rfl ntmps34 fun hO=>?_
   repeat' first|refine st ?_|(refine ca ?_;first|apply hp|apply hk)|(refine br ?_ ?_<;>intro hb)|refine sd ?_|refine sx ?_|apply au|(apply aF;(· decide +kernel))|refine bd ?_ ?_|(refine cd ?_;first|apply hp|apply hk)|fail
   all_goals refine fR results34 ?_
   all_goals exact h
  | const k =>
   rcases hcc k rfl with rfl|rfl|rfl
   ·
    have hk:=fun S'=>tn w0 S' pars _ 12 0 0 (fun S'=>PX w0 S' pars)
    simp only [jr,ap,aq,iU] at h
    simp only [bS] at h hk
    simp only [Wy.av,bw,ur,gv,if_true,if_false,show ((13:Int)=12)=False from by decide,show ((15:Int)=12)=False from by decide,show ((15:Int)=13)=False from by decide,go_sem] at hf ha
    clear hP hcc hok hlen
    refine eN func34 rfl ntmps34 fun hO=>?_
    repeat' first|refine st ?_|(refine ca ?_;first|apply hp|apply hk)|(refine br ?_ ?_<;>intro hb)|refine sd ?_|refine sx ?_|apply au|(apply aF;(· decide +kernel))|refine bd ?_ ?_|(refine cd ?_;first|apply hp|apply hk)|fail
    all_goals refine fR results34 ?_
    all_goals exact h
   ·
    have hk:=fun S'=>tn w0 S' pars _ 13 0 0 (fun S'=>PW w0 S' pars)
    simp only [jr,ap,aq,iU] at h
    simp only [bS] at h hk
    simp only [Wy.av,bw,ur,gv,if_true,if_false,show ((13:Int)=12)=False from by decide,show ((15:Int)=12)=False from by decide,show ((15:Int)=13)=False from by decide,go_sem] at hf ha
    clear hP hcc hok hlen
    refine eN func34 rfl ntmps34 fun hO=>?_
    repeat' first|refine st ?_|(refine ca ?_;first|apply hp|apply hk)|(refine br ?_ ?_<;>intro hb)|refine sd ?_|refine sx ?_|apply au|(apply aF;(· decide +kernel))|refine bd ?_ ?_|(refine cd ?_;first|apply hp|apply hk)|fail
    all_goals refine fR results34 ?_
    all_goals exact h
   ·
    have hk:=fun S'=>tn w0 S' pars _ 15 0 0 (fun S'=>PT w0 S' pars)
    simp only [jr,ap,aq,iU] at h
    simp only [bS] at h hk
    simp only [Wy.av,bw,ur,gv,if_true,if_false,show ((13:Int)=12)=False from by decide,show ((15:Int)=12)=False from by decide,show ((15:Int)=13)=False from by decide,go_sem] at hf ha
    clear hP hcc hok hlen
    refine eN func34 rfl ntmps34 fun hO=>?_
    repeat' first|refine st ?_|(refine ca ?_;first|apply hp|apply hk)|(refine br ?_ ?_<;>intro hb)|refine sd ?_|refine sx ?_|apply au|(apply aF;(· decide +kernel))|refine bd ?_ ?_|(refine cd ?_;first|apply hp|apply hk)|fail
    all_goals refine fR results34 ?_
    all_goals exact h
  | pens =>
   have hk:=fun S'=>PV w0 (hP rfl) S' pars hok
   simp only [Wy.av,bw,ur,gv,go_sem] at hf ha
   have h:R (.ret (.sval false ((jS pars).map Ac.av))) S:=h
   generalize jS pars=z at h hk
   clear hP hcc hok hlen
   refine eN func34 rfl ntmps34 fun hO=>?_
   repeat' first|refine st ?_|(refine ca ?_;first|apply hp|apply hk)|(refine br ?_ ?_<;>intro hb)|refine sd ?_|refine sx ?_|apply au|(apply aF;(· decide +kernel))|refine bd ?_ ?_|(refine cd ?_;first|apply hp|apply hk)|fail
   all_goals refine fR results34 ?_
   all_goals exact h
  | shape =>
   have hk:=fun S'=>tn w0 S' pars _ 40 (dX pars 0 0) 0 (fun S'=>PU w0 S' pars)
   simp only [jr,ap,aq,iU] at h
   simp only [bS] at h hk
   simp only [Wy.av,bw,ur,gv,go_sem] at hf ha
   clear hP hcc hok hlen
   refine eN func34 rfl ntmps34 fun hO=>?_
   repeat' first|refine st ?_|(refine ca ?_;first|apply hp|apply hk)|(refine br ?_ ?_<;>intro hb)|refine sd ?_|refine sx ?_|apply au|(apply aF;(· decide +kernel))|refine bd ?_ ?_|(refine cd ?_;first|apply hp|apply hk)|fail
   all_goals refine fR results34 ?_
   all_goals exact h
  | askMode n =>
   have hk:=fun S'=>CV w0 S' pars _ n 43 (dX pars 0 0) n (fun S'=>PS w0 S' pars n)
   simp only [jr,ap,aq,iU] at h
   simp only [bS] at h hk
   simp only [Wy.av,bw,ur,gv,go_sem] at hf ha
   clear hP hcc hok hlen
   refine eN func34 rfl ntmps34 fun hO=>?_
   repeat' first|refine st ?_|(refine ca ?_;first|apply hp|apply hk)|(refine br ?_ ?_<;>intro hb)|refine sd ?_|refine sx ?_|apply au|(apply aF;(· decide +kernel))|refine bd ?_ ?_|(refine cd ?_;first|apply hp|apply hk)|fail
   all_goals refine fR results34 ?_
   all_goals exact h
def xH(a:Ac):Prop:=(-100000≤a.m∧a.m≤100000)∧a.text.length≤8192
theorem ui{l:List (List Int)}(h:dQ l=true)(i:Int):0≤dX l i 0∧dX l i 0≤9999:=by
 unfold dQ at h
 simp only [ao,aw,Eg] at h
 unfold dX
 split
 ·omega
 ·split
  ·next n s hx =>
   have hm:=h.2.2 _ (ax hx)
   unfold iw at hm
   simp only [eF,not_or,Bool.not_eq_true,fH,ct] at hm
   have hn:=hm.2.2.1
   unfold lP at hn
   simp only [ct,decide_eq_false_iff_not] at hn
   split<;>omega
  ·omega
theorem GB{l:List (List Int)}(h:dQ l=true):1≤lN l∧lN l≤9999:=by
 have:=ui h 0
 unfold lN
 split<;>omega
theorem mG(k n m:Int)(h1 : -100000≤m)(h2:m≤100000):xH (gy k n m):=⟨⟨h1,h2⟩,by simp [gy]⟩
theorem JA{c:Prop}[Decidable c]{x a:Ac}{r:Option Ac}(h:(if c then some x else r)=some a):x=a∨r=some a:=by
 split at h
 ·cases h;exact .inl rfl
 ·exact .inr h
theorem KH(n m:Int)(h1 : -100000≤m)(h2:m≤100000):xH (df n m):=⟨⟨h1,h2⟩,by simp [df]⟩
theorem Lp(n k c:Int):xH (dC n k c):=⟨by simp [dC],by simp [dC]⟩
theorem G4{v:Int}{a:Ac}(h:ir v=some a):xH a:=by
 unfold ir at h
 iterate 26 (rcases JA h with h|h;· subst h;first|exact KH _ _ (by decide) (by decide)|exact Lp _ _ _)
 cases h
theorem qK{n how:Int}{l:List Int}{a:Ac}(h:dG n how l=some a):xH a:=by
 unfold dG at h
 repeat' split at h
 all_goals first|(cases h;done)|(cases h;exact⟨by simp [dC],by simp [dC]⟩)
theorem FB{s:List Int}{a:Ac}(h:dy s=some a):xH a:=by
 unfold dy at h
 split at h
 ·split at h
  ·next h5=>cases h;exact⟨⟨by simp only [df];omega,by simp only [df];omega⟩,by simp [df]⟩
  ·cases h
 ·split at h
  ·cases h
  ·split at h
   ·exact qK h
   ·split at h
    ·exact qK h
    ·cases h
theorem Gh{l:List (List Int)}{a:Ac}(h:(dM l).1=some a):xH a:=by
 unfold dM at h
 split at h
 ·exact FB h
 ·split at h
  ·split at h
   ·split at h
    ·exact qK h
    ·cases h
   ·split at h
    ·split at h
     ·exact qK h
     ·cases h
    ·exact G4 h
  ·exact G4 h
theorem zx:∀ (k:Nat) (l:List (List Int)),∀ a∈gR k l,xH a
 | 0,_,a,h=>by cases h
 | k+1,l,a,h=>by
  unfold gR at h
  split at h
  ·cases h
  ·rcases cH.1 h with h|h
   ·exact Gh (by simpa using h)
   ·exact zx k _ a h
theorem FA(l:List (List Int)):∀ a∈jS l,xH a:=by
 intro a h
 unfold jS at h
 split at h
 ·rw [bk.1 h];exact⟨by decide,by decide⟩
 ·exact zx _ _ a h
def sr:Sq→Bool
 | .modes _ b=>decide (-1000≤b)&&decide (b≤1000)
 | .askMode n=>decide (-1000≤n)&&decide (n≤1000)
 | _=>true
theorem Kr{q:Sq}{l:List (List Int)}(h:dQ l=true)(hq:sr q=true):∀ a∈jr q l,xH a:=by
 have h0:=ui h 0
 have h1:=ui h 1
 have hc:=GB h
 intro a ha
 cases q with
 | cnt k=>rw [bk.1 ha];exact mG _ _ _ (by omega) (by omega)
 | first k=>rw [bk.1 ha];exact mG _ _ _ (by omega) (by omega)
 | way k n=>rw [bk.1 ha];exact mG _ _ _ (by omega) (by omega)
 | cursor=>rw [bk.1 ha];exact mG _ _ _ (by omega) (by omega)
 | modes k b =>
  simp only [sr,ao,decide_eq_true_eq] at hq
  obtain⟨i,_,rfl⟩:=aM.1 ha
  exact mG _ _ _ (by omega) (by omega)
 | ask n =>
  simp only [jr] at ha
  split at ha
  ·rw [bk.1 ha];exact mG _ _ _ (by omega) (by omega)
  ·cases ha
 | margins=>rw [bk.1 ha];exact mG _ _ _ (by omega) (by omega)
 | const k=>rw [bk.1 ha];exact mG _ _ _ (by omega) (by omega)
 | pens=>exact FA l a ha
 | shape=>rw [bk.1 ha];exact mG _ _ _ (by omega) (by omega)
 | askMode n =>
  simp only [sr,ao,decide_eq_true_eq] at hq
  rw [bk.1 ha];exact mG _ _ _ (by omega) (by omega)
theorem Cj{w:Wy}{q:Sq}(h:od w=some q):sr q=true:=by
 unfold od at h
 obtain⟨p,hp,rfl⟩:=aK.1 h
 have hm:=nU hp
 have hall:(qw.all fun p=>sr p.2)=true:=by decide
 exact aC.1 hall p hm
theorem wU{α β:Type}{f:α × β→Bool}{l:List (α × β)}{g:β→Bool}{b:β}(hg:l.all (fun p=>g p.2)=true)(h:(l.find? f).map (·.2)=some b):g b=true:=by
 obtain⟨p,hp,rfl⟩:=aK.1 h
 exact aC.1 hg p (nU hp)
def uJ(a:Ac):Bool:=decide (-100000≤a.m)&&(decide (a.m≤100000)&&decide (a.text.length≤8192))
theorem wx{a:Ac}(h:uJ a=true):xH a:=by
 unfold uJ at h
 simp only [ao,decide_eq_true_eq] at h
 exact⟨⟨h.1,h.2.1⟩,h.2.2⟩
theorem FC{s:List UInt8}{a:Ac}(h:ea s=some a):xH a:=by
 obtain⟨⟨u,hu⟩,_⟩:=wy h
 have hl:=(wA hu).2.2.1
 rcases qe hu with⟨t,rfl,_,rfl⟩|⟨n,c,rfl,_⟩|⟨t,rfl,ht,_⟩
 ·exact⟨by simp,by simp at hl ⊢;omega⟩
 ·exact⟨by simp,by simp⟩
 ·exact⟨by simp,by simp;omega⟩
theorem D1{e:Ev}(h:jE e=true):∀ a∈qB e,xH a:=by
 unfold jE at h
 simp only [ao] at h
 have hr:=h.2
 intro a ha
 unfold qB at ha
 split at ha
 ·rw [bk.1 ha];exact mG _ _ _ (by decide) (by decide)
 ·split at ha
  ·have ha:sV e.code=some a:=by simpa using ha
   exact wx (wU (g:=uJ) (l:=vm) (by decide) ha)
  ·split at ha
   ·have ha:qy ⟨0,e.inter,e.fin⟩=some a:=by simpa using ha
    exact wx (wU (g:=uJ) (l:=wX) (by decide) ha)
   ·split at ha
    ·unfold vp at ha
     split at ha
     ·next q hq=>exact Kr hr (Cj hq) a ha
     ·cases ha
    ·split at ha
     ·exact FC (by simpa using ha)
     ·cases ha
theorem MH(w0:World)(hQ:lz w0)(S:List aH)(e:Ev)(hr:dQ e.pars=true)(ht:e.text.length≤8192)(hP:e.kind=4→od ⟨e.priv,e.inter,e.fin⟩=some .pens→sy w0)(R:Rt)(h:R (.ret (.sval false ((qB e).map Ac.av))) S):aj prog w0 34 [e.av] S R:=by
 obtain⟨k,c,pr,fi,pars,it,tx⟩:=e
 unfold qB at h
 simp only at h hr ht hP
 unfold Ev.av
 simp only
 by_cases h1:k=1
 ·subst h1;rw [if_pos rfl] at h;exact LG w0 S c pr fi pars it tx R h
 rw [if_neg h1] at h
 by_cases h2:k=2
 ·subst h2;rw [if_pos rfl] at h;exact LF w0 S c pr fi pars it tx R h
 rw [if_neg h2] at h
 by_cases h3:k=3
 ·subst h3;rw [if_pos rfl] at h;exact LD w0 S c pr fi pars it tx R h
 rw [if_neg h3] at h
 by_cases h4:k=4
 ·subst h4;rw [if_pos rfl] at h;exact LC w0 S c pr fi pars it tx hr (hP rfl) R h
 rw [if_neg h4] at h
 by_cases h5:k=5
 ·subst h5;rw [if_pos rfl] at h;exact LA w0 S c pr fi pars it tx hQ ht R h
 rw [if_neg h5] at h
 exact LH k (beq_eq_false_iff_ne.2 h1) (beq_eq_false_iff_ne.2 h2) (beq_eq_false_iff_ne.2 h3) (beq_eq_false_iff_ne.2 h4) (beq_eq_false_iff_ne.2 h5) w0 S c pr fi pars it tx R h
theorem pD:∀ (k:Nat) (l:List (List Int)),(gR k l).length≤k
 | 0,_=>a8 _
 | k+1,l=>by
  unfold gR
  split
  ·simp
  ·have:=pD k (l.drop (dM l).2)
   have h2:(dM l).1.toList.length≤1:=by cases (dM l).1<;>simp
   rw [ai];omega
theorem iE{α:Type}(o:Option α):o.toList.length≤1:=by cases o<;>simp
theorem zT{e:Ev}(h:jE e=true):(qB e).length≤100:=by
 unfold jE dQ at h
 simp only [ao,decide_eq_true_eq] at h
 have hl:=h.2.1
 unfold qB
 split
 ·simp
 ·split
  ·have:=iE (sV e.code);omega
  ·split
   ·have:=iE (qy ⟨0,e.inter,e.fin⟩);omega
   ·split
    ·unfold vp
     split
     ·next q _ =>
      cases q
      all_goals simp only [jr,aB,aL,be,List.length_range]
      all_goals (try omega)
      ·split<;>simp
      ·unfold jS
       split
       ·simp
       ·have:=pD e.pars.length e.pars;omega
     ·simp
    ·split
     ·have:=iE (ea e.text);omega
     ·simp
theorem tQ{α:Type}{p:α→Bool}{l:List α}{i:Nat}{x:α}(h:l[i]? = some x):(l.take (i+1)).filter p=(l.take i).filter p++(if p x then [x] else []):=by
 rw [sC,h,GQ]
 congr 1
 simp only [ip]
 cases hp:p x
 ·rw [List.filter_cons_of_neg (by simp [hp])];rfl
 ·rw [List.filter_cons_of_pos hp];rfl
theorem MG(w0:World)(hM:lA w0)(hW:ly w0)(hQ:m3 w0)(hQ2:lz w0)(S:List aH)(e:Ev)(hl:nQ e.pars)(ht:e.text.length≤8192)(hP:jE e=true→e.kind=4→od ⟨e.priv,e.inter,e.fin⟩=some .pens→sy w0)(R:Rt)
  (h:R (.ret (.tup [.sval false ((uP e).map Ac.av),.int .i64 (if jE e then 0 else 201)])) S):aj prog w0 17 [e.av] S R:=by
 have hck:=fun S'=>xy w0 S' e hl
 unfold uP at h
 cases hok:jE e with
 | false =>
  rw [hok] at h hck
  simp only [cg,if_false,aq] at h hck
  unfold Ev.av at hck ⊢
  clear hM hW hQ hQ2 hl ht hP hok
  refine eN func17 rfl ntmps17 fun hO=>?_
  repeat' first|refine st ?_|(refine ca ?_;apply hck)|(refine br ?_ ?_<;>intro hb)|fail
  refine fR results17 ?_
  exact h
 | true =>
  have hokr:dQ e.pars=true:=by unfold jE at hok;simp only [ao] at hok;exact hok.2
  have hal:=fun S'=>MH w0 hQ2 S' e hokr ht (hP hok)
  have hB:=D1 hok
  have hLn:=zT hok
  rw [hok] at h hck
  simp only [if_true] at h hck
  generalize qB e=L at h hal hB hLn
  have hcf:=fun S' (a:Ac) (hb:xH a)=>D9 w0 hM hW hQ S' a ⟨by have:=hb.1;omega,by have:=hb.1;omega⟩ (by have:=hb.2;omega)
  unfold Ev.av at hck hal ⊢
  have H:=ab h
  have HB:=ab hB
  have HC:=ab hcf
  clear hM hW hQ hQ2 hl ht hP hok hokr hcf hB h
  refine eN func17 rfl ntmps17 fun hO=>?_
  repeat' first|refine st ?_|(refine ca ?_;first|apply hck|apply hal)|(refine br ?_ ?_<;>intro hb)|fail
  refine jp (t:=2) (e:=25) (sz:=6) ss (by decide) ?_
  refine cW (fun (j:Nat) env S'=>j≤L.length∧env 1000000=.dfr []∧env 2=.sown (S.length+1) ((L.take j).filter e_).length ((L.take j).filter e_).length∧env 13=.sval false (L.map Ac.av)∧env 14=.int .i64 (L.length:Int)∧env 15=.int .i64 (j:Int) ∧
   S'=S++[.cells [.int .i64 e.kind,.int .i64 e.code,.int .u8 e.priv,.int .u8 e.fin,.sval false (e.pars.map cB),.str e.inter,.str e.text] none,.arr 25 6 0 ((L.take j).filter e_).length (((L.take j).filter e_).map Ac.av)]) (fun j=>L.length - j) 0 ?_ ?_
  ·exact⟨bf _,ss,ss,ss,ss,ss,by simp only [aP,List.filter_nil,aq,aL];(simp only [go_sem, *];try rfl)⟩
  ·rintro j env S' ⟨hj,e0,f2,f13,f14,f15,rfl⟩ IH
   have HI:=ab IH
   clear IH hck hal
   have hfl:((L.take j).filter e_).length≤100:=eT (List.length_filter_le _ _) (eT (List.length_take_le' _ _) hLn)
   by_cases hlt:j<L.length
   ·obtain⟨a,hx⟩:∃ a,L[j]? = some a:=⟨_,al hlt⟩
    have h1:decide ((j:Int)<(L.length:Int))=true:=by simpa using hlt
    have hw:ae.wrap ((j:Int)+1)=((j+1:Nat):Int):=by rw [ah _ (by omega)];omega
    have Hsu:=ab (tQ (p:=e_) hx)
    have hc:=fun S'=>HC.out S' a (HB.out a (ax hx))
    generalize (L.take j).filter e_=F at hfl Hsu f2 ⊢
    have hb:(F.length+1) * 56≤140737488355328:=by omega
    have Hlt:=ab hlt
    obtain⟨k1,k2,k3,k4,k5,k6⟩:=a
    have hav:Ac.av ⟨k1,k2,k3,k4,k5,k6⟩=.agg [.int .i64 k1,.int .i64 k2,.int .i64 k3,.int .i64 k4,.int .i64 k5,.str k6]:=rfl
    rw [hav] at hc
    clear hlt hj hfl hLn
    cases ha:e_ ⟨k1,k2,k3,k4,k5,k6⟩
    ·rw [ha] at hc
     simp only [cg,if_false] at hc
     repeat' first|refine st ?_|(refine ca ?_;apply hc)|(refine br ?_ ?_<;>intro hb)|fail
     refine cw hO 2 [2,13,14,15] rfl ss ss ?_ ?_
     ·(simp only [go_sem, *];try rfl)
     simp only [aZ,aP]
     refine HI.out (j+1) _ _ (by have:=Hlt.out;omega) ⟨Hlt.out, ?_, ?_, ?_, ?_, ?_, ?_⟩
     ·(simp only [go_sem, *];try rfl)
     ·rw [Hsu.out,ha];simp only [cg,if_false,aG];(simp only [go_sem, *];try rfl)
     ·(simp only [go_sem, *];try rfl)
     ·(simp only [go_sem, *];try rfl)
     ·(simp only [go_sem, *];try rfl)
     ·rw [Hsu.out,ha];simp only [cg,if_false,aG]
    ·rw [ha] at hc
     simp only [if_true] at hc
     repeat' first|refine st ?_|(refine ca ?_;apply hc)|(refine br ?_ ?_<;>intro hb)|fail
     refine cw hO 2 [2,13,14,15] rfl ss ss ?_ ?_
     ·(simp only [go_sem, *];try rfl)
     simp only [aZ,aP]
     refine HI.out (j+1) _ _ (by have:=Hlt.out;omega) ⟨Hlt.out, ?_, ?_, ?_, ?_, ?_, ?_⟩
     ·(simp only [go_sem, *];try rfl)
     ·rw [Hsu.out,ha];simp only [if_true,ai,aB,aL,bC];(simp only [go_sem, *];try rfl)
     ·(simp only [go_sem, *];try rfl)
     ·(simp only [go_sem, *];try rfl)
     ·(simp only [go_sem, *];try rfl)
     ·rw [Hsu.out,ha];simp only [if_true,ai,aB,aL,bC,aY,ap,aq,hav]
   ·have h1:decide ((j:Int)<(L.length:Int))=false:=by simpa using hlt
    have htk:L.take j=L:=dV (by omega)
    have hh:=H.out
    rw [htk] at f2 ⊢
    generalize L.filter e_=F at hh f2 ⊢
    have hle:(F.map Ac.av).length=F.length:=by simp
    clear hlt hj hfl hLn htk HI H
    repeat' first|refine st ?_|(refine br ?_ ?_<;>intro hb)|fail
    refine fR results17 ?_
    exact hh
theorem H6{k:IntKind}{n:Int}(h:(Lit.int k n).wf=true)(hk:k.min=0):((n.toNat:Nat):Int)=n:=by
 simp only [Lit.wf,ao,decide_eq_true_eq,hk] at h
 omega
theorem H7{k:IntKind}{n:Int}(h:(Lit.int k n).wf=true):n≤k.max:=by
 simp only [Lit.wf,ao,decide_eq_true_eq] at h
 omega
end Go.Proofs.YthdbijpefkapnaaGreatDoor
