/- A part of the proof. -/
import Derived.Test.YthdbijpefkapnaaGreatDoorOfWalk14
set_option linter.all false
set_option maxHeartbeats 40000000
open Bool renaming and_eq_true → aq, eq_iff_iff → eU, false_eq_true → aZ, not_eq_false' → aE, not_eq_true' → ay, or_eq_false_iff → cF, or_eq_true → ef
open Function renaming comp_def → aY
open Go.IntKind renaming i64 → ae
open Go.IntWalk renaming i64_in → ai
open Go.Lib renaming hid → ab
open Go.RowKit renaming Hid → CC
open Int renaming cast_ofNat_Int → bA
open List renaming all_eq_true → aD, all_map → bz, any_cons → fS, any_eq_false → Jm, append_nil → aG, filter_append → IP, find?_cons → ld, getElem?_eq_getElem → ap, length_append → ah, length_cons → aB, length_map → bi, length_nil → aI, map_append → aM, map_cons → al, map_map → Fl, map_nil → aj, mem_append → bV, mem_map → aN, mem_of_find?_eq_some → oJ, mem_of_getElem? → ax, mem_singleton → a_, range → bh, take_add_one → jW, take_of_length_le → dJ, take_succ_cons → aR, take_zero → aO
open Nat renaming le_refl → ba, le_trans → fc, zero_add → bG, zero_le → bf
open Option renaming map_eq_some_iff → aL, map_none → kj, map_some → dp, toList_none → fo, toList_some → iX
namespace Go.Proofs.YthdbijpefkapnaaGreatDoor
open Go Go.Fen Go.Proofs.Tryz
attribute [local irreducible] aX WP ao dS i7 cJ aU cC
set_option maxRecDepth 8000
variable (w0:World) (S:List aH)
theorem Fi(a:Ac):a.av.plain=true:=rfl
@[go_sem] theorem Ac.plainL(l:List Ac):plainL (l.map Ac.av)=true:=fL Fi l
@[go_sem] theorem Ac.ltL(l:List Ac)(n:Nat):Go.Fen.ltL n (l.map Ac.av)=true:=c_.2 fun x hx=>by obtain⟨y,_,rfl⟩:=aN.1 hx;rfl
@[go_sem] theorem Ac.ok(l:List Ac):cI 6 (l.map Ac.av)=true:=by
 unfold cI;rw [aD];intro x hx;obtain⟨y,_,rfl⟩:=aN.1 hx;rfl
theorem NW(v:Int):(if (1:Int)<v then v else 1)=max 1 v:=by split<;>omega
theorem q4(l:List (List Int))(k:Int)(R:Rt)(h:R (.ret (b7 k (mn l) 0)) S):ao prog w0 143 [.sval false (l.map ct),.pro [.int .i64 k]] S R:=by
 have hac:=yx w0
 have hf:=fun S'=>jQ w0 S' l
 have hs:=fun S'=>jw w0 S' l
 have hc:=fun S'=>ie w0 S' l
 unfold b7 at h
 generalize mn l=c at h hc
 have H:=ab h
 clear h
 refine eN func143 rfl ntmps143 fun hO=>?_
 repeat' ((fail_if_success (apply ci 1));first|refine st ?_|(refine br ?_ ?_<;>intro hb)|fail)
 refine gy (n:=5) mixed rfl ?_;refine x_ 4 1 rfl (by decide +kernel) (by decide +kernel) (by decide +kernel) ?_
 repeat' first|refine st ?_|(refine ca ?_;first|apply hac|apply hf|apply hs|apply hc)|(refine br ?_ ?_<;>intro hb)|refine sd ?_|apply aw|(apply aF;(· decide +kernel))|refine bd ?_ ?_|(refine cd ?_;first|apply hac|apply hf|apply hs|apply hc)|refine sq ?_|(apply sj;(iterate 2 (· simp only [go_sem, *];try rfl));(· rfl);(· simp only [go_sem, *];try rfl);(· rfl);(· rfl);(· simp only [go_sem, *];try rfl);(· intro R hR;(first|apply hac|apply hf|apply hs|apply hc);exact hR))|(refine bq ?_ ?_;all_goals (intro hb;try simp only [ay,aE] at hb))|fail
 refine fR results143 ?_
 exact H.out
theorem q5(l:List (List Int))(k:Int)(R:Rt)(h:R (.ret (b7 k (eg l 0 0) 0)) S):ao prog w0 145 [.sval false (l.map ct),.pro [.int .i64 k]] S R:=by
 have hac:=yx w0
 have hf:=fun S'=>jQ w0 S' l
 have hs:=fun S'=>jw w0 S' l
 have hc:=fun S'=>ie w0 S' l
 unfold b7 at h
 have H:=ab h
 clear h
 refine eN func145 rfl ntmps145 fun hO=>?_
 repeat' ((fail_if_success (apply ci 1));first|refine st ?_|(refine br ?_ ?_<;>intro hb)|fail)
 refine gy (n:=5) mixed rfl ?_;refine x_ 4 1 rfl (by decide +kernel) (by decide +kernel) (by decide +kernel) ?_
 repeat' first|refine st ?_|(refine ca ?_;first|apply hac|apply hf|apply hs|apply hc)|(refine br ?_ ?_<;>intro hb)|refine sd ?_|apply aw|(apply aF;(· decide +kernel))|refine bd ?_ ?_|(refine cd ?_;first|apply hac|apply hf|apply hs|apply hc)|refine sq ?_|(apply sj;(iterate 2 (· simp only [go_sem, *];try rfl));(· rfl);(· simp only [go_sem, *];try rfl);(· rfl);(· rfl);(· simp only [go_sem, *];try rfl);(· intro R hR;(first|apply hac|apply hf|apply hs|apply hc);exact hR))|(refine bq ?_ ?_;all_goals (intro hb;try simp only [ay,aE] at hb))|fail
 refine fR results145 ?_
 exact H.out
theorem q6(l:List (List Int))(k n:Int)(R:Rt)(h:R (.ret (b7 k n (mn l))) S):ao prog w0 147 [.sval false (l.map ct),.pro [.int .i64 k,.int .i64 n,.int .i64 0,.int .i64 0,.int .i64 0,.str []]] S R:=by
 have hac:=yx w0
 have hf:=fun S'=>jQ w0 S' l
 have hs:=fun S'=>jw w0 S' l
 have hc:=fun S'=>ie w0 S' l
 unfold b7 at h
 generalize mn l=c at h hc
 have H:=ab h
 clear h
 refine eN func147 rfl ntmps147 fun hO=>?_
 repeat' ((fail_if_success (apply ci 1));first|refine st ?_|(refine br ?_ ?_<;>intro hb)|fail)
 refine gy (n:=8) mixed rfl ?_;refine x_ 7 1 rfl (by decide +kernel) (by decide +kernel) (by decide +kernel) ?_
 repeat' first|refine st ?_|(refine ca ?_;first|apply hac|apply hf|apply hs|apply hc)|(refine br ?_ ?_<;>intro hb)|refine sd ?_|apply aw|(apply aF;(· decide +kernel))|refine bd ?_ ?_|(refine cd ?_;first|apply hac|apply hf|apply hs|apply hc)|refine sq ?_|(apply sj;(iterate 2 (· simp only [go_sem, *];try rfl));(· rfl);(· simp only [go_sem, *];try rfl);(· rfl);(· rfl);(· simp only [go_sem, *];try rfl);(· intro R hR;(first|apply hac|apply hf|apply hs|apply hc);exact hR))|(refine bq ?_ ?_;all_goals (intro hb;try simp only [ay,aE] at hb))|fail
 refine fR results147 ?_
 exact H.out
theorem q7(l:List (List Int))(R:Rt)(h:R (.ret (b7 19 (mn l) (max 1 (eg l 1 0)))) S):ao prog w0 148 [.sval false (l.map ct)] S R:=by
 have hac:=yx w0
 have hf:=fun S'=>jQ w0 S' l
 have hs:=fun S'=>jw w0 S' l
 have hc:=fun S'=>ie w0 S' l
 unfold b7 at h
 generalize mn l=c at h hc
 rw [← NW] at h
 obtain⟨v,hv⟩:∃ v,(if (1:Int)<eg l 1 0 then eg l 1 0 else 1)=v:=⟨_,rfl⟩
 rw [hv] at h
 have H:=ab h
 clear h
 exact γR4 hac hf hs hc func148 ntmps148 results148 H.out
theorem q9(l:List (List Int))(R:Rt)(h:R (.ret (b7 38 (eg l 0 0) (eg l 1 0))) S):ao prog w0 151 [.sval false (l.map ct)] S R:=by
 have hac:=yx w0
 have hf:=fun S'=>jQ w0 S' l
 have hs:=fun S'=>jw w0 S' l
 have hc:=fun S'=>ie w0 S' l
 unfold b7 at h
 have H:=ab h
 clear h
 exact γR4 hac hf hs hc func151 ntmps151 results151 H.out
theorem Rg(l:List (List Int))(R:Rt)(h:R (.ret (b7 12 0 0)) S):ao prog w0 152 [.sval false (l.map ct)] S R:=by
 have hac:=yx w0
 have hf:=fun S'=>jQ w0 S' l
 have hs:=fun S'=>jw w0 S' l
 have hc:=fun S'=>ie w0 S' l
 unfold b7 at h
 have H:=ab h
 clear h
 exact γR4 hac hf hs hc func152 ntmps152 results152 H.out
theorem Rf(l:List (List Int))(R:Rt)(h:R (.ret (b7 13 0 0)) S):ao prog w0 153 [.sval false (l.map ct)] S R:=by
 have hac:=yx w0
 have hf:=fun S'=>jQ w0 S' l
 have hs:=fun S'=>jw w0 S' l
 have hc:=fun S'=>ie w0 S' l
 unfold b7 at h
 have H:=ab h
 clear h
 exact γR4 hac hf hs hc func153 ntmps153 results153 H.out
theorem Rd(l:List (List Int))(R:Rt)(h:R (.ret (b7 40 (eg l 0 0) 0)) S):ao prog w0 156 [.sval false (l.map ct)] S R:=by
 have hac:=yx w0
 have hf:=fun S'=>jQ w0 S' l
 have hs:=fun S'=>jw w0 S' l
 have hc:=fun S'=>ie w0 S' l
 unfold b7 at h
 have H:=ab h
 clear h
 exact γR4 hac hf hs hc func156 ntmps156 results156 H.out
theorem Rc(l:List (List Int))(R:Rt)(h:R (.ret (b7 15 0 0)) S):ao prog w0 157 [.sval false (l.map ct)] S R:=by
 have hac:=yx w0
 have hf:=fun S'=>jQ w0 S' l
 have hs:=fun S'=>jw w0 S' l
 have hc:=fun S'=>ie w0 S' l
 unfold b7 at h
 have H:=ab h
 clear h
 exact γR4 hac hf hs hc func157 ntmps157 results157 H.out
theorem Rb(l:List (List Int))(n:Int)(R:Rt)(h:R (.ret (b7 43 (eg l 0 0) n)) S):ao prog w0 158 [.sval false (l.map ct),.pro [.int .i64 n]] S R:=by
 have hac:=yx w0
 have hf:=fun S'=>jQ w0 S' l
 have hs:=fun S'=>jw w0 S' l
 have hc:=fun S'=>ie w0 S' l
 unfold b7 at h
 have H:=ab h
 clear h
 refine eN func158 rfl ntmps158 fun hO=>?_
 repeat' ((fail_if_success (apply ci 1));first|refine st ?_|(refine br ?_ ?_<;>intro hb)|fail)
 refine gy (n:=5) mixed rfl ?_;refine x_ 4 1 rfl (by decide +kernel) (by decide +kernel) (by decide +kernel) ?_
 repeat' first|refine st ?_|(refine ca ?_;first|apply hac|apply hf|apply hs|apply hc)|(refine br ?_ ?_<;>intro hb)|refine sd ?_|apply aw|(apply aF;(· decide +kernel))|refine bd ?_ ?_|(refine cd ?_;first|apply hac|apply hf|apply hs|apply hc)|refine sq ?_|(apply sj;(iterate 2 (· simp only [go_sem, *];try rfl));(· rfl);(· simp only [go_sem, *];try rfl);(· rfl);(· rfl);(· simp only [go_sem, *];try rfl);(· intro R hR;(first|apply hac|apply hf|apply hs|apply hc);exact hR))|(refine bq ?_ ?_;all_goals (intro hb;try simp only [ay,aE] at hb))|fail
 refine fR results158 ?_
 exact H.out
theorem um(l:List (List Int))(g:FuncId)(k n m:Int)(hg:∀ (S':List aH) (R:Rt),R (.ret (b7 k n m)) S'→ao prog w0 g [.sval false (l.map ct)] S' R)(R:Rt)(h:R (.ret (.sval false [b7 k n m])) S):ao prog w0 139 [.sval false (l.map ct),.pro [.fn (.func g) [] []]] S R:=by
 unfold b7 at hg h
 exact γR1 hg func139 ntmps139 results139 h
theorem DW(l:List (List Int))(g:FuncId)(a:Int)(k n m:Int)(hg:∀ (S':List aH) (R:Rt),R (.ret (b7 k n m)) S'→ao prog w0 g [.sval false (l.map ct),.pro [.int .i64 a]] S' R)(R:Rt)(h:R (.ret (.sval false [b7 k n m])) S):ao prog w0 139 [.sval false (l.map ct),.pro [.fn (.func g) [] [.pro [.int .i64 a]]]] S R:=by
 unfold b7 at hg h
 exact γR1 hg func139 ntmps139 results139 h
theorem Mf(l:List (List Int))(g:FuncId)(a b:Int)(k n m:Int)(hg:∀ (S':List aH) (R:Rt),R (.ret (b7 k n m)) S'→ao prog w0 g [.sval false (l.map ct),.pro [.int .i64 a,.int .i64 b,.int .i64 0,.int .i64 0,.int .i64 0,.str []]] S' R)(R:Rt)(h:R (.ret (.sval false [b7 k n m])) S):ao prog w0 139 [.sval false (l.map ct),.pro [.fn (.func g) [] [.pro [.int .i64 a,.int .i64 b,.int .i64 0,.int .i64 0,.int .i64 0,.str []]]]] S R:=by
 unfold b7 at hg h
 exact γR1 hg func139 ntmps139 results139 h
theorem q8(l:List (List Int))(n:Int)(R:Rt)(h:R (.ret (.sval false ((jN (.ask n) l).map Ac.av))) S):ao prog w0 150 [.sval false (l.map ct),.pro [.int .i64 n]] S R:=by
 have hac:=yx w0
 have hf:=fun S'=>jQ w0 S' l
 unfold jN at h
 by_cases hz:eg l 0 0=0
 ·simp only [hz,if_true,al,aj,jn,b7] at h
  rw [hz] at hf
  clear hz
  exact γR2 hac hf func150 ntmps150 results150 h
 ·simp only [hz,if_false,aj] at h
  have hb:(eg l 0 0 != 0)=true:=by simpa using hz
  clear hz
  exact γR2 hac hf func150 ntmps150 results150 h
theorem Ra(l:List (List Int))(k b:Int)(hl:l.length≤100000)(R:Rt)(h:R (.ret (.sval false ((jN (.modes k b) l).map Ac.av))) S):ao prog w0 141 [.sval false (l.map ct),.pro [.int .i64 k],.pro [.int .i64 b]] S R:=by
 have hac:=yx w0
 unfold jN at h
 simp only [Fl,aY,jn] at h
 have hv:=fun (i:Nat) S' R h=>(li w0 S' l (i:Int) 0 R h).1
 obtain⟨n,hn⟩:∃ n,max 1 l.length=n:=⟨_,rfl⟩
 rw [hn] at h
 have hm:(if (1:Int)<(l.length:Int) then (l.length:Int) else 1)=(n:Int):=by subst hn;split<;>omega
 have hn2:n≤100001:=ω
 have H:=ab h
 clear h hl hn
 refine eN func141 rfl ntmps141 fun hO=>?_
 refine ε0 ?_
 refine ij (t:=4) (e:=25) (sz:=6) ss δ ?_
 refine cD (fun (j:Nat) env S'=>j≤n∧env 1000000=.dfr []∧env 0=.sval false (l.map ct)∧env 1=.pro [.int .i64 k]∧env 2=.pro [.int .i64 b]∧env 4=.sown S.length j j∧env 8=.int .i64 (n:Int)∧env 9=.int .i64 (j:Int)∧S'=S++[.arr 25 6 0 j ((bh j).map fun (i:Nat)=>b7 k (eg l (i:Int) 0) b)]) (fun j=>n - j) 0 ?_ ?_
 ·exact⟨bf _,ss,ss,ss,ss,ss,ss,ss,rfl⟩
 ·rintro j env S' ⟨hj,e0,f0,f1,f2,f4,f8,f9,rfl⟩ IH
  have HI:=ab IH
  clear IH
  have hok:cI 6 ((bh j).map fun (i:Nat)=>b7 k (eg l (i:Int) 0) b)=true:=by
   unfold cI;rw [aD];intro x hx;obtain⟨y,_,rfl⟩:=aN.1 hx;rfl
  have hlt2:∀ m,Go.Fen.ltL m ((bh j).map fun (i:Nat)=>b7 k (eg l (i:Int) 0) b)=true:=fun m=>c_.2 fun x hx=>by obtain⟨y,_,rfl⟩:=aN.1 hx;rfl
  have hpl:plainL ((bh j).map fun (i:Nat)=>b7 k (eg l (i:Int) 0) b)=true:=fL (fun _=>rfl) _
  have hle:((bh j).map fun (i:Nat)=>b7 k (eg l (i:Int) 0) b).length=j:=χ
  have Hsu:CC (((bh (j+1)).map fun (i:Nat)=>b7 k (eg l (i:Int) 0) b)=((bh j).map fun (i:Nat)=>b7 k (eg l (i:Int) 0) b)++[b7 k (eg l (j:Int) 0) b]):=ab (by rw [List.range_succ,aM];rfl)
  generalize hL:((bh j).map fun (i:Nat)=>b7 k (eg l (i:Int) 0) b)=L at hok hlt2 hpl hle Hsu ⊢
  by_cases hlt:j<n
  ·have h1:decide ((j:Int)<(n:Int))=true:=by simpa using hlt
   have hw:ae.wrap ((j:Int)+1)=((j+1:Nat):Int):=by rw [ai _ ω];omega
   have hb:(j+1) * 56≤140737488355328:=ω
   have hvj:=hv j
   have Hlt:=ab hlt
   clear hlt hj hv hL hm hn2
   refine Δ2 hac hvj ?_
   refine bX hO 1 [0,1,2,4,8,9] rfl ss ss ?_ ?_
   ·exact ss
   simp only [aR,aO]
   refine HI.out (j+1) _ _ (by have:=Hlt.out;omega) ⟨Hlt.out, ?_, ?_, ?_, ?_, ?_, ?_, ?_, ?_⟩
   ·exact ss
   ·exact ss
   ·exact ss
   ·exact ss
   ·exact ss
   ·exact ss
   ·exact ss
   ·rw [Hsu.out];rfl
  ·have h1:decide ((j:Int)<(n:Int))=false:=by simpa using hlt
   have hje:j=n:=ω
   subst hje
   have H2:=H.out
   rw [hL] at H2
   clear hlt hj hv hL hm hn2 HI H
   refine ε0 ?_
   refine fE results141 ?_
   exact H2
def tw(w0:World):Prop:=∀ (S:List aH) (l:List (List Int)),db l=true→∀ (R:Rt),R (.ret (.tup [.sval false ((kq l).map Ac.av),.int .i64 0])) S→ao prog w0 155 [.sval false (l.map ct)] S R
theorem sO(c:Int):∀ l:List (Int × Ac),(l.map fun p=>((.int .i64 p.1:AV),p.2.av)).find? (fun e=>kR (.int .i64 c) e.1)=(l.find? fun p=>c==p.1).map fun p=>((.int .i64 p.1:AV),p.2.av)
 | []=>rfl
 | p::l=>by
  rw [al,ld,ld,sO c l]
  show (match c==p.1 with|true=>_|false=>_)=_
  cases c==p.1<;>rfl
theorem Jr(a b:Wy):kR a.av b.av=(a==b):=by
 obtain⟨p,i,f⟩:=a
 obtain⟨p',i',f'⟩:=b
 rw [eU]
 simp only [Wy.av,kR,sI,tV,aq,beq_iff_eq,Wy.mk.injEq,and_true,Int.ofNat_inj,Int.natCast_inj]
theorem v8{α:Type}(f:α→AV)(w:Wy):∀ l:List (Wy × α),(l.map fun p=>(p.1.av,f p.2)).find? (fun e=>kR w.av e.1)=(l.find? fun p=>w==p.1).map fun p=>(p.1.av,f p.2)
 | []=>rfl
 | p::l=>by
  rw [al,ld,ld,v8 f w l,Jr]
  cases w==p.1<;>rfl
theorem CL(w:Wy):fh prog 140 w.av=true:=jY _ _ _
theorem B_(c:Int):(vG.find? (fun e=>kR (.int .i64 c) e.1)=(wk.find? fun p=>c==p.1).map fun p=>((.int .i64 p.1:AV),p.2.av))∧vG.all (fun e=>fh prog 3 e.1)=true:=by
 constructor
 ·exact sO c wk
 ·unfold vG
  rw [bz]
  exact aD.2 fun p _=>by simp only [fh,aY,go_sem]
theorem B5(w:Wy):(Ie.find? (fun e=>kR w.av e.1)=(xX.find? fun p=>w==p.1).map fun p=>(p.1.av,p.2.av))∧Ie.all (fun e=>fh prog 140 e.1)=true:=by
 constructor
 ·exact v8 Ac.av w xX
 ·unfold Ie
  rw [bz]
  exact aD.2 fun p _=>CL _
theorem Bt(w:Wy):(FL.find? (fun e=>kR w.av e.1)=(rj.find? fun p=>w==p.1).map fun p=>(p.1.av,vj p.2))∧FL.all (fun e=>fh prog 140 e.1)=true:=by
 constructor
 ·exact v8 vj w rj
 ·unfold FL
  rw [bz]
  exact aD.2 fun p _=>CL _
theorem ji{α β:Type}(f:α × β→Bool)(l:List (α × β)):l.find? f=none∨∃ j a,l.find? f=some (j,a):=by
 cases l.find? f with
 | none=>exact .inl rfl
 | some q=>exact .inr ⟨q.1,q.2,rfl⟩
theorem M9(c:Int)(pr fi:Nat)(pars:List (List Int))(it tx:List UInt8)(R:Rt)(h:R (.ret (.sval false ([gP 1 c 0].map Ac.av))) S):ao prog w0 34 [.agg [.int .i64 1,.int .i64 c,.int .u8 pr,.int .u8 fi,.sval false (pars.map ct),.str it,.str tx]] S R:=by
 have hac:=yx w0
 simp only [al,aj,jn,b7] at h
 refine eN func34 rfl ntmps34 fun hO=>?_
 refine ε1 hac ?_
 all_goals refine fR results34 ?_
 all_goals exact h
theorem M8(c:Int)(pr fi:Nat)(pars:List (List Int))(it tx:List UInt8)(R:Rt)(h:R (.ret (.sval false ((tY c).toList.map Ac.av))) S):ao prog w0 34 [.agg [.int .i64 2,.int .i64 c,.int .u8 pr,.int .u8 fi,.sval false (pars.map ct),.str it,.str tx]] S R:=by
 have hp:=LA w0
 obtain⟨hf,ha⟩:=B_ c
 unfold tY at h
 rcases ji (fun p=>c==p.1) wk with hl|⟨j,a,hl⟩
 ·rw [hl] at hf h
  simp only [kj,fo,aj] at hf h
  simp only [go_sem] at hf ha
  clear hl
  refine eN func34 rfl ntmps34 fun hO=>?_
  repeat' first|refine st ?_|(refine ca ?_;apply hp)|(refine br ?_ ?_<;>intro hb)|refine sd ?_|refine sx ?_|apply aw|(apply aF;(· decide +kernel))|refine bd ?_ ?_|(refine cd ?_;apply hp)|fail
  all_goals refine fR results34 ?_
  all_goals exact h
 ·rw [hl] at hf h
  obtain⟨k1,k2,k3,k4,k5,k6⟩:=a
  simp only [dp,iX,al,aj,Ac.av] at hf h
  simp only [go_sem] at hf ha
  clear hl
  refine eN func34 rfl ntmps34 fun hO=>?_
  repeat' first|refine st ?_|(refine ca ?_;apply hp)|(refine br ?_ ?_<;>intro hb)|refine sd ?_|refine sx ?_|apply aw|(apply aF;(· decide +kernel))|refine bd ?_ ?_|(refine cd ?_;apply hp)|fail
  all_goals refine fR results34 ?_
  all_goals exact h
theorem M7(c:Int)(pr fi:Nat)(pars:List (List Int))(it tx:List UInt8)(R:Rt)(h:R (.ret (.sval false ((rl ⟨0,it,fi⟩).toList.map Ac.av))) S):ao prog w0 34 [.agg [.int .i64 3,.int .i64 c,.int .u8 pr,.int .u8 fi,.sval false (pars.map ct),.str it,.str tx]] S R:=by
 have hp:=Fb w0
 obtain⟨hf,ha⟩:=B5 ⟨0,it,fi⟩
 unfold rl at h
 rcases ji (fun p=>(⟨0,it,fi⟩:Wy)==p.1) xX with hl|⟨j,a,hl⟩
 ·rw [hl] at hf h
  simp only [kj,fo,aj] at hf h
  simp only [Wy.av,bA,go_sem] at hf ha
  clear hl
  refine eN func34 rfl ntmps34 fun hO=>?_
  repeat' first|refine st ?_|(refine ca ?_;apply hp)|(refine br ?_ ?_<;>intro hb)|refine sd ?_|refine sx ?_|apply aw|(apply aF;(· decide +kernel))|refine bd ?_ ?_|(refine cd ?_;apply hp)|fail
  all_goals refine fR results34 ?_
  all_goals exact h
 ·rw [hl] at hf h
  obtain⟨k1,k2,k3,k4,k5,k6⟩:=a
  simp only [dp,iX,al,aj,Ac.av] at hf h
  simp only [Wy.av,bA,go_sem] at hf ha
  clear hl
  refine eN func34 rfl ntmps34 fun hO=>?_
  repeat' first|refine st ?_|(refine ca ?_;apply hp)|(refine br ?_ ?_<;>intro hb)|refine sd ?_|refine sx ?_|apply aw|(apply aF;(· decide +kernel))|refine bd ?_ ?_|(refine cd ?_;apply hp)|fail
  all_goals refine fR results34 ?_
  all_goals exact h
theorem M5(c:Int)(pr fi:Nat)(pars:List (List Int))(it tx:List UInt8)(hQ:lZ w0)(ht:tx.length≤8192)(R:Rt)(h:R (.ret (.sval false ((er tx).toList.map Ac.av))) S):ao prog w0 34 [.agg [.int .i64 5,.int .i64 c,.int .u8 pr,.int .u8 fi,.sval false (pars.map ct),.str it,.str tx]] S R:=by
 have hp:=fun S'=>hQ S' tx ht
 cases hl:er tx with
 | none =>
  rw [hl] at hp h
  simp only [tS,zeroA,Ac.av,fo,aj] at hp h
  clear hl
  refine eN func34 rfl ntmps34 fun hO=>?_
  refine ε1 hp ?_
  all_goals refine fR results34 ?_
  all_goals exact h
 | some a =>
  rw [hl] at hp h
  obtain⟨k1,k2,k3,k4,k5,k6⟩:=a
  simp only [tS,Ac.av,iX,al,aj] at hp h
  clear hl
  refine eN func34 rfl ntmps34 fun hO=>?_
  refine ε1 hp ?_
  all_goals refine fR results34 ?_
  all_goals exact h
theorem M_(k:Int)(h1:(k==1)=false)(h2:(k==2)=false)(h3:(k==3)=false)(h4:(k==4)=false)(h5:(k==5)=false)(w0:World)(S:List aH)(c:Int)(pr fi:Nat)(pars:List (List Int))(it tx:List UInt8)(R:Rt)(h:R (.ret (.sval false (([]:List Ac).map Ac.av))) S):ao prog w0 34 [.agg [.int .i64 k,.int .i64 c,.int .u8 pr,.int .u8 fi,.sval false (pars.map ct),.str it,.str tx]] S R:=by
 simp only [aj] at h
 refine eN func34 rfl ntmps34 fun hO=>?_
 refine ε0 ?_
 all_goals refine fR results34 ?_
 all_goals exact h
theorem yg{w:Wy}{k:Int}(h:oY w=some (.const k)):k=12∨k=13∨k=15:=by
 unfold oY at h
 obtain⟨p,hp,e⟩:=aL.1 h
 have hm:=oJ hp
 have hall:(rj.all fun p=>match p.2 with | .const k=>k==12||(k==13||k==15)|_=>true)=true:=δ
 have:=aD.1 hall p hm
 rw [e] at this
 simpa using this
theorem Re(w0:World)(hP:tw w0)(S:List aH)(l:List (List Int))(hl:db l=true)(R:Rt)(h:R (.ret (.sval false ((kq l).map Ac.av))) S):ao prog w0 154 [.sval false (l.map ct)] S R:=by
 have hp:=fun S'=>hP S' l hl
 generalize kq l=x at h hp
 clear hP hl
 exact γR1 hp func154 ntmps154 results154 h
theorem M6(c:Int)(pr fi:Nat)(pars:List (List Int))(it tx:List UInt8)(hok:db pars=true)(hP:oY ⟨pr,it,fi⟩=some .pens→tw w0)(R:Rt)(h:R (.ret (.sval false ((wl ⟨4,c,pr,fi,pars,it,tx⟩).map Ac.av))) S):ao prog w0 34 [.agg [.int .i64 4,.int .i64 c,.int .u8 pr,.int .u8 fi,.sval false (pars.map ct),.str it,.str tx]] S R:=by
 have hp:=M2 w0
 obtain⟨hf,ha⟩:=Bt ⟨pr,it,fi⟩
 have hlen:pars.length≤100000:=by
  unfold db at hok
  simp only [aq,decide_eq_true_eq] at hok
  omega
 have hq:wl ⟨4,c,pr,fi,pars,it,tx⟩=match oY ⟨pr,it,fi⟩ with|some q=>jN q pars|none=>[]:=rfl
 have hcc:=fun k=>yg (w:=⟨pr,it,fi⟩) (k:=k)
 rw [hq] at h
 clear hq
 unfold oY at h hP hcc
 rcases ji (fun p=>(⟨pr,it,fi⟩:Wy)==p.1) rj with hl|⟨j,q,hl⟩
 ·rw [hl] at hf h
  simp only [kj,aj] at hf h
  simp only [Wy.av,bA,go_sem] at hf ha
  clear hl hP hcc hok hlen
  refine eN func34 rfl ntmps34 fun hO=>?_
  repeat' first|refine st ?_|(refine ca ?_;apply hp)|(refine br ?_ ?_<;>intro hb)|refine sd ?_|refine sx ?_|apply aw|(apply aF;(· decide +kernel))|refine bd ?_ ?_|(refine cd ?_;apply hp)|fail
  all_goals refine fR results34 ?_
  all_goals exact h
 ·rw [hl] at hf h hP hcc
  simp only [dp] at hf h hP hcc
  clear hl
  cases q with
  | cnt k =>
   have hk:=fun S'=>DW w0 S' pars _ k k (mn pars) 0 (fun S'=>q4 w0 S' pars k)
   simp only [jN,al,aj,jn] at h
   simp only [b7] at h hk
   simp only [Wy.av,bA,vj,gK,go_sem] at hf ha
   clear hP hcc hok hlen
   refine eN func34 rfl ntmps34 fun hO=>?_
   repeat' first|refine st ?_|(refine ca ?_;first|apply hp|apply hk)|(refine br ?_ ?_<;>intro hb)|refine sd ?_|refine sx ?_|apply aw|(apply aF;(· decide +kernel))|refine bd ?_ ?_|(refine cd ?_;first|apply hp|apply hk)|fail
   all_goals refine fR results34 ?_
   all_goals exact h
  | first k =>
   have hk:=fun S'=>DW w0 S' pars _ k k (eg pars 0 0) 0 (fun S'=>q5 w0 S' pars k)
   simp only [jN,al,aj,jn] at h
   simp only [b7] at h hk
   simp only [Wy.av,bA,vj,gK,go_sem] at hf ha
   clear hP hcc hok hlen
   refine eN func34 rfl ntmps34 fun hO=>?_
   repeat' first|refine st ?_|(refine ca ?_;first|apply hp|apply hk)|(refine br ?_ ?_<;>intro hb)|refine sd ?_|refine sx ?_|apply aw|(apply aF;(· decide +kernel))|refine bd ?_ ?_|(refine cd ?_;first|apply hp|apply hk)|fail
   all_goals refine fR results34 ?_
   all_goals exact h
  | way k n =>
   have hk:=fun S'=>Mf w0 S' pars _ k n k n (mn pars) (fun S'=>q6 w0 S' pars k n)
   simp only [jN,al,aj,jn] at h
   simp only [b7] at h hk
   simp only [Wy.av,bA,vj,gK,go_sem] at hf ha
   clear hP hcc hok hlen
   refine eN func34 rfl ntmps34 fun hO=>?_
   repeat' first|refine st ?_|(refine ca ?_;first|apply hp|apply hk)|(refine br ?_ ?_<;>intro hb)|refine sd ?_|refine sx ?_|apply aw|(apply aF;(· decide +kernel))|refine bd ?_ ?_|(refine cd ?_;first|apply hp|apply hk)|fail
   all_goals refine fR results34 ?_
   all_goals exact h
  | cursor =>
   have hk:=fun S'=>um w0 S' pars _ 19 (mn pars) (max 1 (eg pars 1 0)) (fun S'=>q7 w0 S' pars)
   simp only [jN,al,aj,jn] at h
   simp only [b7] at h hk
   simp only [Wy.av,bA,vj,gK,go_sem] at hf ha
   clear hP hcc hok hlen
   refine eN func34 rfl ntmps34 fun hO=>?_
   repeat' first|refine st ?_|(refine ca ?_;first|apply hp|apply hk)|(refine br ?_ ?_<;>intro hb)|refine sd ?_|refine sx ?_|apply aw|(apply aF;(· decide +kernel))|refine bd ?_ ?_|(refine cd ?_;first|apply hp|apply hk)|fail
   all_goals refine fR results34 ?_
   all_goals exact h
  | modes k b =>
   have hk:=fun S'=>Ra w0 S' pars k b hlen
   simp only [Wy.av,bA,vj,gK,go_sem] at hf ha
   have h:R (.ret (.sval false ((jN (.modes k b) pars).map Ac.av))) S:=h
   generalize jN (.modes k b) pars=z at h hk
   clear hP hcc hok hlen
   refine eN func34 rfl ntmps34 fun hO=>?_
   repeat' first|refine st ?_|(refine ca ?_;first|apply hp|apply hk)|(refine br ?_ ?_<;>intro hb)|refine sd ?_|refine sx ?_|apply aw|(apply aF;(· decide +kernel))|refine bd ?_ ?_|(refine cd ?_;first|apply hp|apply hk)|fail
   all_goals refine fR results34 ?_
   all_goals exact h
  | ask n =>
   have hk:=fun S'=>q8 w0 S' pars n
   simp only [Wy.av,bA,vj,gK,go_sem] at hf ha
   have h:R (.ret (.sval false ((jN (.ask n) pars).map Ac.av))) S:=h
   generalize jN (.ask n) pars=z at h hk
   clear hP hcc hok hlen
   refine eN func34 rfl ntmps34 fun hO=>?_
   repeat' first|refine st ?_|(refine ca ?_;first|apply hp|apply hk)|(refine br ?_ ?_<;>intro hb)|refine sd ?_|refine sx ?_|apply aw|(apply aF;(· decide +kernel))|refine bd ?_ ?_|(refine cd ?_;first|apply hp|apply hk)|fail
   all_goals refine fR results34 ?_
   all_goals exact h
  | margins =>
   have hk:=fun S'=>um w0 S' pars _ 38 (eg pars 0 0) (eg pars 1 0) (fun S'=>q9 w0 S' pars)
   simp only [jN,al,aj,jn] at h
   simp only [b7] at h hk
   simp only [Wy.av,bA,vj,gK,go_sem] at hf ha
   clear hP hcc hok hlen
   refine eN func34 rfl ntmps34 fun hO=>?_
   repeat' first|refine st ?_|(refine ca ?_;first|apply hp|apply hk)|(refine br ?_ ?_<;>intro hb)|refine sd ?_|refine sx ?_|apply aw|(apply aF;(· decide +kernel))|refine bd ?_ ?_|(refine cd ?_;first|apply hp|apply hk)|fail
   all_goals refine fR results34 ?_
   all_goals exact h
  | const k =>
   rcases hcc k rfl with rfl|rfl|rfl
   ·
    have hk:=fun S'=>um w0 S' pars _ 12 0 0 (fun S'=>Rg w0 S' pars)
    simp only [jN,al,aj,jn] at h
    simp only [b7] at h hk
    simp only [Wy.av,bA,vj,gK,if_true,if_false,show ((13:Int)=12)=False from by decide,show ((15:Int)=12)=False from by decide,show ((15:Int)=13)=False from by decide,go_sem] at hf ha
    clear hP hcc hok hlen
    refine eN func34 rfl ntmps34 fun hO=>?_
    repeat' first|refine st ?_|(refine ca ?_;first|apply hp|apply hk)|(refine br ?_ ?_<;>intro hb)|refine sd ?_|refine sx ?_|apply aw|(apply aF;(· decide +kernel))|refine bd ?_ ?_|(refine cd ?_;first|apply hp|apply hk)|fail
    all_goals refine fR results34 ?_
    all_goals exact h
   ·
    have hk:=fun S'=>um w0 S' pars _ 13 0 0 (fun S'=>Rf w0 S' pars)
    simp only [jN,al,aj,jn] at h
    simp only [b7] at h hk
    simp only [Wy.av,bA,vj,gK,if_true,if_false,show ((13:Int)=12)=False from by decide,show ((15:Int)=12)=False from by decide,show ((15:Int)=13)=False from by decide,go_sem] at hf ha
    clear hP hcc hok hlen
    refine eN func34 rfl ntmps34 fun hO=>?_
    repeat' first|refine st ?_|(refine ca ?_;first|apply hp|apply hk)|(refine br ?_ ?_<;>intro hb)|refine sd ?_|refine sx ?_|apply aw|(apply aF;(· decide +kernel))|refine bd ?_ ?_|(refine cd ?_;first|apply hp|apply hk)|fail
    all_goals refine fR results34 ?_
    all_goals exact h
   ·
    have hk:=fun S'=>um w0 S' pars _ 15 0 0 (fun S'=>Rc w0 S' pars)
    simp only [jN,al,aj,jn] at h
    simp only [b7] at h hk
    simp only [Wy.av,bA,vj,gK,if_true,if_false,show ((13:Int)=12)=False from by decide,show ((15:Int)=12)=False from by decide,show ((15:Int)=13)=False from by decide,go_sem] at hf ha
    clear hP hcc hok hlen
    refine eN func34 rfl ntmps34 fun hO=>?_
    repeat' first|refine st ?_|(refine ca ?_;first|apply hp|apply hk)|(refine br ?_ ?_<;>intro hb)|refine sd ?_|refine sx ?_|apply aw|(apply aF;(· decide +kernel))|refine bd ?_ ?_|(refine cd ?_;first|apply hp|apply hk)|fail
    all_goals refine fR results34 ?_
    all_goals exact h
  | pens =>
   have hk:=fun S'=>Re w0 (hP rfl) S' pars hok
   simp only [Wy.av,bA,vj,gK,go_sem] at hf ha
   have h:R (.ret (.sval false ((kq pars).map Ac.av))) S:=h
   generalize kq pars=z at h hk
   clear hP hcc hok hlen
   refine eN func34 rfl ntmps34 fun hO=>?_
   repeat' first|refine st ?_|(refine ca ?_;first|apply hp|apply hk)|(refine br ?_ ?_<;>intro hb)|refine sd ?_|refine sx ?_|apply aw|(apply aF;(· decide +kernel))|refine bd ?_ ?_|(refine cd ?_;first|apply hp|apply hk)|fail
   all_goals refine fR results34 ?_
   all_goals exact h
  | shape =>
   have hk:=fun S'=>um w0 S' pars _ 40 (eg pars 0 0) 0 (fun S'=>Rd w0 S' pars)
   simp only [jN,al,aj,jn] at h
   simp only [b7] at h hk
   simp only [Wy.av,bA,vj,gK,go_sem] at hf ha
   clear hP hcc hok hlen
   refine eN func34 rfl ntmps34 fun hO=>?_
   repeat' first|refine st ?_|(refine ca ?_;first|apply hp|apply hk)|(refine br ?_ ?_<;>intro hb)|refine sd ?_|refine sx ?_|apply aw|(apply aF;(· decide +kernel))|refine bd ?_ ?_|(refine cd ?_;first|apply hp|apply hk)|fail
   all_goals refine fR results34 ?_
   all_goals exact h
  | askMode n =>
   have hk:=fun S'=>DW w0 S' pars _ n 43 (eg pars 0 0) n (fun S'=>Rb w0 S' pars n)
   simp only [jN,al,aj,jn] at h
   simp only [b7] at h hk
   simp only [Wy.av,bA,vj,gK,go_sem] at hf ha
   clear hP hcc hok hlen
   refine eN func34 rfl ntmps34 fun hO=>?_
   repeat' first|refine st ?_|(refine ca ?_;first|apply hp|apply hk)|(refine br ?_ ?_<;>intro hb)|refine sd ?_|refine sx ?_|apply aw|(apply aF;(· decide +kernel))|refine bd ?_ ?_|(refine cd ?_;first|apply hp|apply hk)|fail
   all_goals refine fR results34 ?_
   all_goals exact h
def yG(a:Ac):Prop:=(-100000≤a.m∧a.m≤100000)∧a.text.length≤8192
theorem u_{l:List (List Int)}(h:db l=true)(i:Int):0≤eg l i 0∧eg l i 0≤9999:=by
 unfold db at h
 simp only [aq,ay,Jm] at h
 unfold eg
 split
 ·omega
 ·split
  ·next n s hx =>
   have hm:=h.2.2 _ (ax hx)
   unfold iz at hm
   simp only [ef,not_or,Bool.not_eq_true,fS,cF] at hm
   have hn:=hm.2.2.1
   unfold mr at hn
   simp only [cF,decide_eq_false_iff_not] at hn
   split<;>omega
  ·omega
theorem Ix{l:List (List Int)}(h:db l=true):1≤mn l∧mn l≤9999:=by
 have:=u_ h 0
 unfold mn
 split<;>omega
theorem ni(k n m:Int)(h1 : -100000≤m)(h2:m≤100000):yG (gP k n m):=⟨⟨h1,h2⟩,by simp [gP]⟩
theorem KU{c:Prop}[Decidable c]{x a:Ac}{r:Option Ac}(h:(if c then some x else r)=some a):x=a∨r=some a:=by
 split at h
 ·cases h;exact .inl rfl
 ·exact .inr h
theorem Mh(n m:Int)(h1 : -100000≤m)(h2:m≤100000):yG (dt n m):=⟨⟨h1,h2⟩,by simp [dt]⟩
theorem MU(n k c:Int):yG (dI n k c):=⟨by simp [dI],by simp [dI]⟩
theorem I3{v:Int}{a:Ac}(h:iU v=some a):yG a:=by
 unfold iU at h
 iterate 26 (rcases KU h with h|h;· subst h;first|exact Mh _ _ δ δ|exact MU _ _ _)
 cases h
theorem rD{n how:Int}{l:List Int}{a:Ac}(h:dP n how l=some a):yG a:=by
 unfold dP at h
 repeat' split at h
 all_goals first|(cases h;done)|(cases h;exact⟨by simp [dI],by simp [dI]⟩)
theorem GR{s:List Int}{a:Ac}(h:dD s=some a):yG a:=by
 unfold dD at h
 split at h
 ·split at h
  ·next h5=>cases h;exact⟨⟨by simp only [dt];omega,by simp only [dt];omega⟩,by simp [dt]⟩
  ·cases h
 ·split at h
  ·cases h
  ·split at h
   ·exact rD h
   ·split at h
    ·exact rD h
    ·cases h
theorem H8{l:List (List Int)}{a:Ac}(h:(dX l).1=some a):yG a:=by
 unfold dX at h
 split at h
 ·exact GR h
 ·split at h
  ·split at h
   ·split at h
    ·exact rD h
    ·cases h
   ·split at h
    ·split at h
     ·exact rD h
     ·cases h
    ·exact I3 h
  ·exact I3 h
theorem AC:∀ (k:Nat) (l:List (List Int)),∀ a∈hZ k l,yG a
 | 0,_,a,h=>by cases h
 | k+1,l,a,h=>by
  unfold hZ at h
  split at h
  ·cases h
  ·rcases bV.1 h with h|h
   ·exact H8 (by simpa using h)
   ·exact AC k _ a h
theorem GQ(l:List (List Int)):∀ a∈kq l,yG a:=by
 intro a h
 unfold kq at h
 split at h
 ·rw [a_.1 h];exact⟨δ,δ⟩
 ·exact AC _ _ a h
def tt:Sq→Bool
 | .modes _ b=>decide (-1000≤b)&&decide (b≤1000)
 | .askMode n=>decide (-1000≤n)&&decide (n≤1000)
 | _=>true
theorem LY{q:Sq}{l:List (List Int)}(h:db l=true)(hq:tt q=true):∀ a∈jN q l,yG a:=by
 have h0:=u_ h 0
 have h1:=u_ h 1
 have hc:=Ix h
 intro a ha
 cases q with
 | cnt k=>rw [a_.1 ha];exact ni _ _ _ ω ω
 | first k=>rw [a_.1 ha];exact ni _ _ _ ω ω
 | way k n=>rw [a_.1 ha];exact ni _ _ _ ω ω
 | cursor=>rw [a_.1 ha];exact ni _ _ _ ω ω
 | modes k b =>
  simp only [tt,aq,decide_eq_true_eq] at hq
  obtain⟨i,_,rfl⟩:=aN.1 ha
  exact ni _ _ _ ω ω
 | ask n =>
  simp only [jN] at ha
  split at ha
  ·rw [a_.1 ha];exact ni _ _ _ ω ω
  ·cases ha
 | margins=>rw [a_.1 ha];exact ni _ _ _ ω ω
 | const k=>rw [a_.1 ha];exact ni _ _ _ ω ω
 | pens=>exact GQ l a ha
 | shape=>rw [a_.1 ha];exact ni _ _ _ ω ω
 | askMode n =>
  simp only [tt,aq,decide_eq_true_eq] at hq
  rw [a_.1 ha];exact ni _ _ _ ω ω
theorem De{w:Wy}{q:Sq}(h:oY w=some q):tt q=true:=by
 unfold oY at h
 obtain⟨p,hp,rfl⟩:=aL.1 h
 have hm:=oJ hp
 have hall:(rj.all fun p=>tt p.2)=true:=δ
 exact aD.1 hall p hm
theorem xU{α β:Type}{f:α × β→Bool}{l:List (α × β)}{g:β→Bool}{b:β}(hg:l.all (fun p=>g p.2)=true)(h:(l.find? f).map (·.2)=some b):g b=true:=by
 obtain⟨p,hp,rfl⟩:=aL.1 h
 exact aD.1 hg p (oJ hp)
def vH(a:Ac):Bool:=decide (-100000≤a.m)&&(decide (a.m≤100000)&&decide (a.text.length≤8192))
theorem xx{a:Ac}(h:vH a=true):yG a:=by
 unfold vH at h
 simp only [aq,decide_eq_true_eq] at h
 exact⟨⟨h.1,h.2.1⟩,h.2.2⟩
theorem GS{s:List UInt8}{a:Ac}(h:er s=some a):yG a:=by
 obtain⟨⟨u,hu⟩,_⟩:=xy h
 have hl:=(xz hu).2.2.1
 rcases qQ hu with⟨t,rfl,_,rfl⟩|⟨n,c,rfl,_⟩|⟨t,rfl,ht,_⟩
 ·exact⟨χ,by simp at hl ⊢;omega⟩
 ·exact⟨χ,χ⟩
 ·exact⟨χ,κ⟩
theorem E5{e:Ev}(h:j7 e=true):∀ a∈rp e,yG a:=by
 unfold j7 at h
 simp only [aq] at h
 have hr:=h.2
 intro a ha
 unfold rp at ha
 split at ha
 ·rw [a_.1 ha];exact ni _ _ _ δ δ
 ·split at ha
  ·have ha:tY e.code=some a:=by simpa using ha
   exact xx (xU (g:=vH) (l:=wk) δ ha)
  ·split at ha
   ·have ha:rl ⟨0,e.inter,e.fin⟩=some a:=by simpa using ha
    exact xx (xU (g:=vH) (l:=xX) δ ha)
   ·split at ha
    ·unfold wl at ha
     split at ha
     ·next q hq=>exact LY hr (De hq) a ha
     ·cases ha
    ·split at ha
     ·exact GS (by simpa using ha)
     ·cases ha
theorem N8(w0:World)(hQ:lZ w0)(S:List aH)(e:Ev)(hr:db e.pars=true)(ht:e.text.length≤8192)(hP:e.kind=4→oY ⟨e.priv,e.inter,e.fin⟩=some .pens→tw w0)(R:Rt)(h:R (.ret (.sval false ((rp e).map Ac.av))) S):ao prog w0 34 [e.av] S R:=by
 obtain⟨k,c,pr,fi,pars,it,tx⟩:=e
 unfold rp at h
 simp only at h hr ht hP
 unfold Ev.av
 simp only
 by_cases h1:k=1
 ·subst h1;rw [if_pos rfl] at h;exact M9 w0 S c pr fi pars it tx R h
 rw [if_neg h1] at h
 by_cases h2:k=2
 ·subst h2;rw [if_pos rfl] at h;exact M8 w0 S c pr fi pars it tx R h
 rw [if_neg h2] at h
 by_cases h3:k=3
 ·subst h3;rw [if_pos rfl] at h;exact M7 w0 S c pr fi pars it tx R h
 rw [if_neg h3] at h
 by_cases h4:k=4
 ·subst h4;rw [if_pos rfl] at h;exact M6 w0 S c pr fi pars it tx hr (hP rfl) R h
 rw [if_neg h4] at h
 by_cases h5:k=5
 ·subst h5;rw [if_pos rfl] at h;exact M5 w0 S c pr fi pars it tx hQ ht R h
 rw [if_neg h5] at h
 exact M_ k (beq_eq_false_iff_ne.2 h1) (beq_eq_false_iff_ne.2 h2) (beq_eq_false_iff_ne.2 h3) (beq_eq_false_iff_ne.2 h4) (beq_eq_false_iff_ne.2 h5) w0 S c pr fi pars it tx R h
theorem qd:∀ (k:Nat) (l:List (List Int)),(hZ k l).length≤k
 | 0,_=>ba _
 | k+1,l=>by
  unfold hZ
  split
  ·simp
  ·have:=qd k (l.drop (dX l).2)
   have h2:(dX l).1.toList.length≤1:=by cases (dX l).1<;>simp
   rw [ah];omega
theorem jb{α:Type}(o:Option α):o.toList.length≤1:=by cases o<;>simp
theorem A2{e:Ev}(h:j7 e=true):(rp e).length≤100:=by
 unfold j7 db at h
 simp only [aq,decide_eq_true_eq] at h
 have hl:=h.2.1
 unfold rp
 split
 ·simp
 ·split
  ·have:=jb (tY e.code);omega
  ·split
   ·have:=jb (rl ⟨0,e.inter,e.fin⟩);omega
   ·split
    ·unfold wl
     split
     ·next q _ =>
      cases q
      all_goals simp only [jN,aB,aI,bi,List.length_range]
      all_goals (try omega)
      ·split<;>simp
      ·unfold kq
       split
       ·simp
       ·have:=qd e.pars.length e.pars;omega
     ·simp
    ·split
     ·have:=jb (er e.text);omega
     ·simp
theorem uG{α:Type}{p:α→Bool}{l:List α}{i:Nat}{x:α}(h:l[i]? = some x):(l.take (i+1)).filter p=(l.take i).filter p++(if p x then [x] else []):=by
 rw [jW,h,IP]
 congr 1
 simp only [iX]
 cases hp:p x
 ·rw [List.filter_cons_of_neg (by simp [hp])];rfl
 ·rw [List.filter_cons_of_pos hp];rfl
theorem N7(w0:World)(hM:l6 w0)(hW:lY w0)(hQ:nL w0)(hQ2:lZ w0)(S:List aH)(e:Ev)(hl:oE e.pars)(ht:e.text.length≤8192)(hP:j7 e=true→e.kind=4→oY ⟨e.priv,e.inter,e.fin⟩=some .pens→tw w0)(R:Rt)
  (h:R (.ret (.tup [.sval false ((vN e).map Ac.av),.int .i64 (if j7 e then 0 else 201)])) S):ao prog w0 17 [e.av] S R:=by
 have hck:=fun S'=>yw w0 S' e hl
 unfold vN at h
 cases hok:j7 e with
 | false =>
  rw [hok] at h hck
  simp only [aZ,if_false,aj] at h hck
  unfold Ev.av at hck ⊢
  clear hM hW hQ hQ2 hl ht hP hok
  exact γR1 hck func17 ntmps17 results17 h
 | true =>
  have hokr:db e.pars=true:=by unfold j7 at hok;simp only [aq] at hok;exact hok.2
  have hal:=fun S'=>N8 w0 hQ2 S' e hokr ht (hP hok)
  have hB:=E5 hok
  have hLn:=A2 hok
  rw [hok] at h hck
  simp only [if_true] at h hck
  generalize rp e=L at h hal hB hLn
  have hcf:=fun S' (a:Ac) (hb:yG a)=>Fc w0 hM hW hQ S' a ⟨by have:=hb.1;omega,by have:=hb.1;omega⟩ (by have:=hb.2;omega)
  unfold Ev.av at hck hal ⊢
  have H:=ab h
  have HB:=ab hB
  have HC:=ab hcf
  clear hM hW hQ hQ2 hl ht hP hok hokr hcf hB h
  refine eN func17 rfl ntmps17 fun hO=>?_
  refine ε2 hck hal ?_
  refine ij (t:=2) (e:=25) (sz:=6) ss δ ?_
  refine cD (fun (j:Nat) env S'=>j≤L.length∧env 1000000=.dfr []∧env 2=.sown (S.length+1) ((L.take j).filter fm).length ((L.take j).filter fm).length∧env 13=.sval false (L.map Ac.av)∧env 14=.int .i64 (L.length:Int)∧env 15=.int .i64 (j:Int) ∧
   S'=S++[.cells [.int .i64 e.kind,.int .i64 e.code,.int .u8 e.priv,.int .u8 e.fin,.sval false (e.pars.map ct),.str e.inter,.str e.text] none,.arr 25 6 0 ((L.take j).filter fm).length (((L.take j).filter fm).map Ac.av)]) (fun j=>L.length - j) 0 ?_ ?_
  ·exact⟨bf _,ss,ss,ss,ss,ss,by simp only [aO,List.filter_nil,aj,aI];(simp only [go_sem, *];try rfl)⟩
  ·rintro j env S' ⟨hj,e0,f2,f13,f14,f15,rfl⟩ IH
   have HI:=ab IH
   clear IH hck hal
   have hfl:((L.take j).filter fm).length≤100:=fc (List.length_filter_le _ _) (fc (List.length_take_le' _ _) hLn)
   by_cases hlt:j<L.length
   ·obtain⟨a,hx⟩:∃ a,L[j]? = some a:=⟨_,ap hlt⟩
    have h1:decide ((j:Int)<(L.length:Int))=true:=by simpa using hlt
    have hw:ae.wrap ((j:Int)+1)=((j+1:Nat):Int):=by rw [ai _ ω];omega
    have Hsu:=ab (uG (p:=fm) hx)
    have hc:=fun S'=>HC.out S' a (HB.out a (ax hx))
    generalize (L.take j).filter fm=F at hfl Hsu f2 ⊢
    have hb:(F.length+1) * 56≤140737488355328:=ω
    have Hlt:=ab hlt
    obtain⟨k1,k2,k3,k4,k5,k6⟩:=a
    have hav:Ac.av ⟨k1,k2,k3,k4,k5,k6⟩=.agg [.int .i64 k1,.int .i64 k2,.int .i64 k3,.int .i64 k4,.int .i64 k5,.str k6]:=rfl
    rw [hav] at hc
    clear hlt hj hfl hLn
    cases ha:fm ⟨k1,k2,k3,k4,k5,k6⟩
    ·rw [ha] at hc
     simp only [aZ,if_false] at hc
     refine ε1 hc ?_
     refine bX hO 2 [2,13,14,15] rfl ss ss ?_ ?_
     ·exact ss
     simp only [aR,aO]
     refine HI.out (j+1) _ _ (by have:=Hlt.out;omega) ⟨Hlt.out, ?_, ?_, ?_, ?_, ?_, ?_⟩
     ·exact ss
     ·rw [Hsu.out,ha];simp only [aZ,if_false,aG];(simp only [go_sem, *];try rfl)
     ·exact ss
     ·exact ss
     ·exact ss
     ·rw [Hsu.out,ha];simp only [aZ,if_false,aG]
    ·rw [ha] at hc
     simp only [if_true] at hc
     refine ε1 hc ?_
     refine bX hO 2 [2,13,14,15] rfl ss ss ?_ ?_
     ·exact ss
     simp only [aR,aO]
     refine HI.out (j+1) _ _ (by have:=Hlt.out;omega) ⟨Hlt.out, ?_, ?_, ?_, ?_, ?_, ?_⟩
     ·exact ss
     ·rw [Hsu.out,ha];simp only [if_true,ah,aB,aI,bG];(simp only [go_sem, *];try rfl)
     ·exact ss
     ·exact ss
     ·exact ss
     ·rw [Hsu.out,ha];simp only [if_true,ah,aB,aI,bG,aM,al,aj,hav]
   ·have h1:decide ((j:Int)<(L.length:Int))=false:=by simpa using hlt
    have htk:L.take j=L:=dJ ω
    have hh:=H.out
    rw [htk] at f2 ⊢
    generalize L.filter fm=F at hh f2 ⊢
    have hle:(F.map Ac.av).length=F.length:=χ
    clear hlt hj hfl hLn htk HI H
    refine ε0 ?_
    refine fR results17 ?_
    exact hh
theorem yM{k:IntKind}{n:Int}(h:(Lit.int k n).wf=true)(hk:k.min=0):((n.toNat:Nat):Int)=n:=by
 simp only [Lit.wf,aq,decide_eq_true_eq,hk] at h
 omega
theorem Ju{k:IntKind}{n:Int}(h:(Lit.int k n).wf=true):n≤k.max:=by
 simp only [Lit.wf,aq,decide_eq_true_eq] at h
 omega
end Go.Proofs.YthdbijpefkapnaaGreatDoor
