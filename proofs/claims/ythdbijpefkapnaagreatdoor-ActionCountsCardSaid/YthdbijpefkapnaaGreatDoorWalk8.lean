/- YthdbijpefkapnaaGreatDoorWalk8. Texts of the proof of a law about texts: a layer of abstract values above the worlds, the types, the walks of the functions that the law reaches, the law and its card. Own work of an AI agent. -/
import Derived.Test.YthdbijpefkapnaaGreatDoorWalk7
import Derived.Test.YthdbijpefkapnaaGreatDoorCore4
import Derived.Test.YthdbijpefkapnaaGreatDoorWalk4
import Derived.Test.YthdbijpefkapnaaGreatDoorWalk1
import Derived.Test.YthdbijpefkapnaaGreatDoorCore3
set_option linter.all false
set_option maxHeartbeats 40000000
open Bool renaming and_eq_true → aB, eq_iff_iff → dT, false_eq_true → du, false_or → kZ, not_eq_false' → aA, not_eq_true' → ax, or_eq_false_iff → cy, or_eq_true → fc, or_false → gh
open Function renaming comp_def → be
open Go.IntKind renaming i64 → ar
open Go.IntWalk renaming i64_in → ay
open Go.Lib renaming hid → au
open Go.RowKit renaming Hid → B_
open Int renaming cast_ofNat_Int → bU
open List renaming all_eq_true → aF, all_map → bT, any_append → gv, any_cons → fo, any_nil → gG, append_assoc → ai, append_nil → aP, cons_append → al, dropLast_concat → AF, dropLast_concat_getLast → wl, filter_append → HE, find?_cons → lc, getElem?_eq_getElem → aC, length → lz, length_append → ab, length_cons → ah, length_map → bB, length_nil → aj, map_append → co, map_cons → aG, map_nil → aL, mem_append → dg, mem_map → aX, mem_of_find?_eq_some → qu, mem_of_getElem? → aI, mem_singleton → bC, nil_append → ap, range → bJ, set_append_right → ef, take_add_one → pI, take_of_length_le → dW, take_succ_cons → ae, take_zero → ao
open Nat renaming le_refl → bg, le_trans → fb, zero_add → dw, zero_le → bI, zero_lt_succ → gg
open Option renaming map_eq_some_iff → aW, map_none → kj, map_some → dF, toList_none → pG, toList_some → iJ
open UInt8 renaming ofNat → aN
namespace Go.Proofs.YthdbijpefkapnaaGreatDoor
open Go Go.Fen
attribute [local irreducible] ba WP az dI ie cU aR cw
set_option maxRecDepth 8000
theorem EE (a:Ac):a.av.plain=true:=rfl
@[go_sem] theorem Ac.plainL (l:List Ac):plainL (l.map Ac.av)=true:=gk EE l
@[go_sem] theorem Ac.ltL (l:List Ac) (n:Nat):Go.Fen.ltL n (l.map Ac.av)=true:=dC.2 fun x hx=>by obtain⟨y,_,rfl⟩:=aX.1 hx;rfl
@[go_sem] theorem Ac.ok (l:List Ac):dz 6 (l.map Ac.av)=true:=by
 unfold dz;rw [aF];intro x hx;obtain⟨y,_,rfl⟩:=aX.1 hx;rfl
theorem Nf (v:Int):(if (1:Int)<v then v else 1)=max 1 v:=by split<;>omega
theorem q4 (w0:World) (S:List aH) (l:List (List Int)) (k:Int) (R:Rt) (h:R (.ret (cM k (kF l) 0)) S):az Tryz.prog w0 143 [.sval false (l.map dA),.pro [.int .i64 k]] S R:=by
 have hac:=x_ w0
 have hf:=fun S'=>jS w0 S' l
 have hs:=fun S'=>jy w0 S' l
 have hc:=fun S'=>ir w0 S' l
 unfold cM at h
 generalize kF l=c at h hc
 have H:=au h
 clear h
 refine eN Tryz.func143 rfl Tryz.ntmps143 fun hO=>?_
 repeat' ((fail_if_success (apply bA 1));first | refine st ?_ | (refine br ?_ ?_<;>intro hb) | fail)
 refine eR (n:=5) mixed rfl ?_;refine xM 4 1 rfl (by decide +kernel) (by decide +kernel) (by decide +kernel) ?_
 repeat' first | refine st ?_ | (refine ca ?_;first | apply hac | apply hf | apply hs | apply hc) | (refine br ?_ ?_<;>intro hb) | refine sd ?_ | apply aE | (apply aO;(· decide +kernel)) | refine bd ?_ ?_ | (refine cd ?_;first | apply hac | apply hf | apply hs | apply hc) | refine sq ?_ | (apply pX;(iterate 2 (· simp only [go_sem, *];try rfl));(· rfl);(· simp only [go_sem, *];try rfl);(· rfl);(· rfl);(· simp only [go_sem, *];try rfl);(· intro R hR;(first | apply hac | apply hf | apply hs | apply hc);exact hR)) | (refine bq ?_ ?_;all_goals (intro hb;try simp only [ax,aA] at hb)) | fail
 refine fR Tryz.results143 ?_
 exact H.out
theorem q5 (w0:World) (S:List aH) (l:List (List Int)) (k:Int) (R:Rt) (h:R (.ret (cM k (eE l 0 0) 0)) S):az Tryz.prog w0 145 [.sval false (l.map dA),.pro [.int .i64 k]] S R:=by
 have hac:=x_ w0
 have hf:=fun S'=>jS w0 S' l
 have hs:=fun S'=>jy w0 S' l
 have hc:=fun S'=>ir w0 S' l
 unfold cM at h
 have H:=au h
 clear h
 refine eN Tryz.func145 rfl Tryz.ntmps145 fun hO=>?_
 repeat' ((fail_if_success (apply bA 1));first | refine st ?_ | (refine br ?_ ?_<;>intro hb) | fail)
 refine eR (n:=5) mixed rfl ?_;refine xM 4 1 rfl (by decide +kernel) (by decide +kernel) (by decide +kernel) ?_
 repeat' first | refine st ?_ | (refine ca ?_;first | apply hac | apply hf | apply hs | apply hc) | (refine br ?_ ?_<;>intro hb) | refine sd ?_ | apply aE | (apply aO;(· decide +kernel)) | refine bd ?_ ?_ | (refine cd ?_;first | apply hac | apply hf | apply hs | apply hc) | refine sq ?_ | (apply pX;(iterate 2 (· simp only [go_sem, *];try rfl));(· rfl);(· simp only [go_sem, *];try rfl);(· rfl);(· rfl);(· simp only [go_sem, *];try rfl);(· intro R hR;(first | apply hac | apply hf | apply hs | apply hc);exact hR)) | (refine bq ?_ ?_;all_goals (intro hb;try simp only [ax,aA] at hb)) | fail
 refine fR Tryz.results145 ?_
 exact H.out
theorem q6 (w0:World) (S:List aH) (l:List (List Int)) (k n:Int) (R:Rt) (h:R (.ret (cM k n (kF l))) S):az Tryz.prog w0 147 [.sval false (l.map dA),.pro [.int .i64 k,.int .i64 n,.int .i64 0,.int .i64 0,.int .i64 0,.str []]] S R:=by
 have hac:=x_ w0
 have hf:=fun S'=>jS w0 S' l
 have hs:=fun S'=>jy w0 S' l
 have hc:=fun S'=>ir w0 S' l
 unfold cM at h
 generalize kF l=c at h hc
 have H:=au h
 clear h
 refine eN Tryz.func147 rfl Tryz.ntmps147 fun hO=>?_
 repeat' ((fail_if_success (apply bA 1));first | refine st ?_ | (refine br ?_ ?_<;>intro hb) | fail)
 refine eR (n:=8) mixed rfl ?_;refine xM 7 1 rfl (by decide +kernel) (by decide +kernel) (by decide +kernel) ?_
 repeat' first | refine st ?_ | (refine ca ?_;first | apply hac | apply hf | apply hs | apply hc) | (refine br ?_ ?_<;>intro hb) | refine sd ?_ | apply aE | (apply aO;(· decide +kernel)) | refine bd ?_ ?_ | (refine cd ?_;first | apply hac | apply hf | apply hs | apply hc) | refine sq ?_ | (apply pX;(iterate 2 (· simp only [go_sem, *];try rfl));(· rfl);(· simp only [go_sem, *];try rfl);(· rfl);(· rfl);(· simp only [go_sem, *];try rfl);(· intro R hR;(first | apply hac | apply hf | apply hs | apply hc);exact hR)) | (refine bq ?_ ?_;all_goals (intro hb;try simp only [ax,aA] at hb)) | fail
 refine fR Tryz.results147 ?_
 exact H.out
theorem q7 (w0:World) (S:List aH) (l:List (List Int)) (R:Rt) (h:R (.ret (cM 19 (kF l) (max 1 (eE l 1 0)))) S):az Tryz.prog w0 148 [.sval false (l.map dA)] S R:=by
 have hac:=x_ w0
 have hf:=fun S'=>jS w0 S' l
 have hs:=fun S'=>jy w0 S' l
 have hc:=fun S'=>ir w0 S' l
 unfold cM at h
 generalize kF l=c at h hc
 rw [← Nf] at h
 obtain⟨v,hv⟩:∃ v,(if (1:Int)<eE l 1 0 then eE l 1 0 else 1)=v:=⟨_,rfl⟩
 rw [hv] at h
 have H:=au h
 clear h
 refine eN Tryz.func148 rfl Tryz.ntmps148 fun hO=>?_
 repeat' first | refine st ?_ | (refine ca ?_;first | apply hac | apply hf | apply hs | apply hc) | (refine br ?_ ?_<;>intro hb) | fail
 refine fR Tryz.results148 ?_
 exact H.out
theorem q9 (w0:World) (S:List aH) (l:List (List Int)) (R:Rt) (h:R (.ret (cM 38 (eE l 0 0) (eE l 1 0))) S):az Tryz.prog w0 151 [.sval false (l.map dA)] S R:=by
 have hac:=x_ w0
 have hf:=fun S'=>jS w0 S' l
 have hs:=fun S'=>jy w0 S' l
 have hc:=fun S'=>ir w0 S' l
 unfold cM at h
 have H:=au h
 clear h
 refine eN Tryz.func151 rfl Tryz.ntmps151 fun hO=>?_
 repeat' first | refine st ?_ | (refine ca ?_;first | apply hac | apply hf | apply hs | apply hc) | (refine br ?_ ?_<;>intro hb) | fail
 refine fR Tryz.results151 ?_
 exact H.out
theorem QO (w0:World) (S:List aH) (l:List (List Int)) (R:Rt) (h:R (.ret (cM 12 0 0)) S):az Tryz.prog w0 152 [.sval false (l.map dA)] S R:=by
 have hac:=x_ w0
 have hf:=fun S'=>jS w0 S' l
 have hs:=fun S'=>jy w0 S' l
 have hc:=fun S'=>ir w0 S' l
 unfold cM at h
 have H:=au h
 clear h
 refine eN Tryz.func152 rfl Tryz.ntmps152 fun hO=>?_
 repeat' first | refine st ?_ | (refine ca ?_;first | apply hac | apply hf | apply hs | apply hc) | (refine br ?_ ?_<;>intro hb) | fail
 refine fR Tryz.results152 ?_
 exact H.out
theorem QN (w0:World) (S:List aH) (l:List (List Int)) (R:Rt) (h:R (.ret (cM 13 0 0)) S):az Tryz.prog w0 153 [.sval false (l.map dA)] S R:=by
 have hac:=x_ w0
 have hf:=fun S'=>jS w0 S' l
 have hs:=fun S'=>jy w0 S' l
 have hc:=fun S'=>ir w0 S' l
 unfold cM at h
 have H:=au h
 clear h
 refine eN Tryz.func153 rfl Tryz.ntmps153 fun hO=>?_
 repeat' first | refine st ?_ | (refine ca ?_;first | apply hac | apply hf | apply hs | apply hc) | (refine br ?_ ?_<;>intro hb) | fail
 refine fR Tryz.results153 ?_
 exact H.out
theorem QL (w0:World) (S:List aH) (l:List (List Int)) (R:Rt) (h:R (.ret (cM 40 (eE l 0 0) 0)) S):az Tryz.prog w0 156 [.sval false (l.map dA)] S R:=by
 have hac:=x_ w0
 have hf:=fun S'=>jS w0 S' l
 have hs:=fun S'=>jy w0 S' l
 have hc:=fun S'=>ir w0 S' l
 unfold cM at h
 have H:=au h
 clear h
 refine eN Tryz.func156 rfl Tryz.ntmps156 fun hO=>?_
 repeat' first | refine st ?_ | (refine ca ?_;first | apply hac | apply hf | apply hs | apply hc) | (refine br ?_ ?_<;>intro hb) | fail
 refine fR Tryz.results156 ?_
 exact H.out
theorem QK (w0:World) (S:List aH) (l:List (List Int)) (R:Rt) (h:R (.ret (cM 15 0 0)) S):az Tryz.prog w0 157 [.sval false (l.map dA)] S R:=by
 have hac:=x_ w0
 have hf:=fun S'=>jS w0 S' l
 have hs:=fun S'=>jy w0 S' l
 have hc:=fun S'=>ir w0 S' l
 unfold cM at h
 have H:=au h
 clear h
 refine eN Tryz.func157 rfl Tryz.ntmps157 fun hO=>?_
 repeat' first | refine st ?_ | (refine ca ?_;first | apply hac | apply hf | apply hs | apply hc) | (refine br ?_ ?_<;>intro hb) | fail
 refine fR Tryz.results157 ?_
 exact H.out
theorem QJ (w0:World) (S:List aH) (l:List (List Int)) (n:Int) (R:Rt) (h:R (.ret (cM 43 (eE l 0 0) n)) S):az Tryz.prog w0 158 [.sval false (l.map dA),.pro [.int .i64 n]] S R:=by
 have hac:=x_ w0
 have hf:=fun S'=>jS w0 S' l
 have hs:=fun S'=>jy w0 S' l
 have hc:=fun S'=>ir w0 S' l
 unfold cM at h
 have H:=au h
 clear h
 refine eN Tryz.func158 rfl Tryz.ntmps158 fun hO=>?_
 repeat' ((fail_if_success (apply bA 1));first | refine st ?_ | (refine br ?_ ?_<;>intro hb) | fail)
 refine eR (n:=5) mixed rfl ?_;refine xM 4 1 rfl (by decide +kernel) (by decide +kernel) (by decide +kernel) ?_
 repeat' first | refine st ?_ | (refine ca ?_;first | apply hac | apply hf | apply hs | apply hc) | (refine br ?_ ?_<;>intro hb) | refine sd ?_ | apply aE | (apply aO;(· decide +kernel)) | refine bd ?_ ?_ | (refine cd ?_;first | apply hac | apply hf | apply hs | apply hc) | refine sq ?_ | (apply pX;(iterate 2 (· simp only [go_sem, *];try rfl));(· rfl);(· simp only [go_sem, *];try rfl);(· rfl);(· rfl);(· simp only [go_sem, *];try rfl);(· intro R hR;(first | apply hac | apply hf | apply hs | apply hc);exact hR)) | (refine bq ?_ ?_;all_goals (intro hb;try simp only [ax,aA] at hb)) | fail
 refine fR Tryz.results158 ?_
 exact H.out
theorem t6 (w0:World) (S:List aH) (l:List (List Int)) (g:FuncId) (k n m:Int) (hg:∀ (S':List aH) (R:Rt),R (.ret (cM k n m)) S'→az Tryz.prog w0 g [.sval false (l.map dA)] S' R) (R:Rt) (h:R (.ret (.sval false [cM k n m])) S):az Tryz.prog w0 139 [.sval false (l.map dA),.pro [.fn (.func g) [] []]] S R:=by
 unfold cM at hg h
 refine eN Tryz.func139 rfl Tryz.ntmps139 fun hO=>?_
 repeat' first | refine st ?_ | (refine ca ?_;apply hg) | (refine br ?_ ?_<;>intro hb) | fail
 refine fR Tryz.results139 ?_
 exact h
theorem Dp (w0:World) (S:List aH) (l:List (List Int)) (g:FuncId) (a:Int) (k n m:Int) (hg:∀ (S':List aH) (R:Rt),R (.ret (cM k n m)) S'→az Tryz.prog w0 g [.sval false (l.map dA),.pro [.int .i64 a]] S' R) (R:Rt) (h:R (.ret (.sval false [cM k n m])) S):az Tryz.prog w0 139 [.sval false (l.map dA),.pro [.fn (.func g) [] [.pro [.int .i64 a]]]] S R:=by
 unfold cM at hg h
 refine eN Tryz.func139 rfl Tryz.ntmps139 fun hO=>?_
 repeat' first | refine st ?_ | (refine ca ?_;apply hg) | (refine br ?_ ?_<;>intro hb) | fail
 refine fR Tryz.results139 ?_
 exact h
theorem Ls (w0:World) (S:List aH) (l:List (List Int)) (g:FuncId) (a b:Int) (k n m:Int) (hg:∀ (S':List aH) (R:Rt),R (.ret (cM k n m)) S'→az Tryz.prog w0 g [.sval false (l.map dA),.pro [.int .i64 a,.int .i64 b,.int .i64 0,.int .i64 0,.int .i64 0,.str []]] S' R) (R:Rt) (h:R (.ret (.sval false [cM k n m])) S):az Tryz.prog w0 139 [.sval false (l.map dA),.pro [.fn (.func g) [] [.pro [.int .i64 a,.int .i64 b,.int .i64 0,.int .i64 0,.int .i64 0,.str []]]]] S R:=by
 unfold cM at hg h
 refine eN Tryz.func139 rfl Tryz.ntmps139 fun hO=>?_
 repeat' first | refine st ?_ | (refine ca ?_;apply hg) | (refine br ?_ ?_<;>intro hb) | fail
 refine fR Tryz.results139 ?_
 exact h
theorem q8 (w0:World) (S:List aH) (l:List (List Int)) (n:Int) (R:Rt) (h:R (.ret (.sval false ((gH (.ask n) l).map Ac.av))) S):az Tryz.prog w0 150 [.sval false (l.map dA),.pro [.int .i64 n]] S R:=by
 have hac:=x_ w0
 have hf:=fun S'=>jS w0 S' l
 unfold gH at h
 by_cases hz:eE l 0 0=0
 ·simp only [hz,if_true,aG,aL,i6,cM] at h
  rw [hz] at hf
  clear hz
  refine eN Tryz.func150 rfl Tryz.ntmps150 fun hO=>?_
  repeat' first | refine st ?_ | (refine ca ?_;first | apply hac | apply hf) | (refine br ?_ ?_<;>intro hb) | fail
  refine fR Tryz.results150 ?_
  exact h
 ·simp only [hz,if_false,aL] at h
  have hb:(eE l 0 0 != 0)=true:=by simpa using hz
  clear hz
  refine eN Tryz.func150 rfl Tryz.ntmps150 fun hO=>?_
  repeat' first | refine st ?_ | (refine ca ?_;first | apply hac | apply hf) | (refine br ?_ ?_<;>intro hb) | fail
  refine fR Tryz.results150 ?_
  exact h
theorem QI (w0:World) (S:List aH) (l:List (List Int)) (k b:Int) (hl:l.length≤100000) (R:Rt) (h:R (.ret (.sval false ((gH (.modes k b) l).map Ac.av))) S):az Tryz.prog w0 141 [.sval false (l.map dA),.pro [.int .i64 k],.pro [.int .i64 b]] S R:=by
 have hac:=x_ w0
 unfold gH at h
 simp only [List.map_map,be,i6] at h
 have hv:=fun (i:Nat) S' R h=>(pN w0 S' l (i:Int) 0 R h).1
 obtain⟨n,hn⟩:∃ n,max 1 l.length=n:=⟨_,rfl⟩
 rw [hn] at h
 have hm:(if (1:Int)<(l.length:Int) then (l.length:Int) else 1)=(n:Int):=by subst hn;split<;>omega
 have hn2:n≤100001:=by omega
 have H:=au h
 clear h hl hn
 refine eN Tryz.func141 rfl Tryz.ntmps141 fun hO=>?_
 repeat' first | refine st ?_ | (refine br ?_ ?_<;>intro hb) | fail
 refine nW (t:=4) (e:=25) (sz:=6) ss (by decide) ?_
 refine dX (fun (j:Nat) env S'=>j≤n∧env 1000000=.dfr []∧env 0=.sval false (l.map dA)∧env 1=.pro [.int .i64 k]∧env 2=.pro [.int .i64 b]∧env 4=.sown S.length j j∧env 8=.int .i64 (n:Int)∧env 9=.int .i64 (j:Int)∧S'=S++[.arr 25 6 0 j ((bJ j).map fun (i:Nat)=>cM k (eE l (i:Int) 0) b)]) (fun j=>n - j) 0 ?_ ?_
 ·exact⟨bI _,ss,ss,ss,ss,ss,ss,ss,rfl⟩
 ·rintro j env S' ⟨hj,e0,f0,f1,f2,f4,f8,f9,rfl⟩ IH
  have HI:=au IH
  clear IH
  have hok:dz 6 ((bJ j).map fun (i:Nat)=>cM k (eE l (i:Int) 0) b)=true:=by
   unfold dz;rw [aF];intro x hx;obtain⟨y,_,rfl⟩:=aX.1 hx;rfl
  have hlt2:∀ m,Go.Fen.ltL m ((bJ j).map fun (i:Nat)=>cM k (eE l (i:Int) 0) b)=true:=fun m=>dC.2 fun x hx=>by obtain⟨y,_,rfl⟩:=aX.1 hx;rfl
  have hpl:plainL ((bJ j).map fun (i:Nat)=>cM k (eE l (i:Int) 0) b)=true:=gk (fun _=>rfl) _
  have hle:((bJ j).map fun (i:Nat)=>cM k (eE l (i:Int) 0) b).length=j:=by simp
  have Hsu:B_ (((bJ (j+1)).map fun (i:Nat)=>cM k (eE l (i:Int) 0) b)=((bJ j).map fun (i:Nat)=>cM k (eE l (i:Int) 0) b)++[cM k (eE l (j:Int) 0) b]):=au (by rw [List.range_succ,co];rfl)
  generalize hL:((bJ j).map fun (i:Nat)=>cM k (eE l (i:Int) 0) b)=L at hok hlt2 hpl hle Hsu ⊢
  by_cases hlt:j<n
  ·have h1:decide ((j:Int)<(n:Int))=true:=by simpa using hlt
   have hw:ar.wrap ((j:Int)+1)=((j+1:Nat):Int):=by rw [ay _ (by omega)];omega
   have hb:(j+1) * 56≤140737488355328:=by omega
   have hvj:=hv j
   have Hlt:=au hlt
   clear hlt hj hv hL hm hn2
   repeat' first | refine st ?_ | (refine ca ?_;first | apply hac | apply hvj) | (refine br ?_ ?_<;>intro hb) | refine sd ?_ | apply aE | (apply aO;(· decide +kernel)) | refine bd ?_ ?_ | (refine cd ?_;first | apply hac | apply hvj) | fail
   refine fq hO 1 [0,1,2,4,8,9] rfl ss ss ?_ ?_
   ·(simp only [go_sem, *];try rfl)
   simp only [ae,ao]
   refine HI.out (j+1) _ _ (by have:=Hlt.out;omega) ⟨Hlt.out, ?_, ?_, ?_, ?_, ?_, ?_, ?_, ?_⟩
   ·(simp only [go_sem, *];try rfl)
   ·(simp only [go_sem, *];try rfl)
   ·(simp only [go_sem, *];try rfl)
   ·(simp only [go_sem, *];try rfl)
   ·(simp only [go_sem, *];try rfl)
   ·(simp only [go_sem, *];try rfl)
   ·(simp only [go_sem, *];try rfl)
   ·rw [Hsu.out];rfl
  ·have h1:decide ((j:Int)<(n:Int))=false:=by simpa using hlt
   have hje:j=n:=by omega
   subst hje
   have H2:=H.out
   rw [hL] at H2
   clear hlt hj hv hL hm hn2 HI H
   repeat' first | refine st ?_ | (refine br ?_ ?_<;>intro hb) | fail
   refine fE Tryz.results141 ?_
   exact H2
def tj (w0:World):Prop:=∀ (S:List aH) (l:List (List Int)),ep l=true→∀ (R:Rt),R (.ret (.tup [.sval false ((mQ l).map Ac.av),.int .i64 0])) S→az Tryz.prog w0 155 [.sval false (l.map dA)] S R
theorem sE (c:Int):∀ l:List (Int × Ac),(l.map fun p=>((.int .i64 p.1:AV),p.2.av)).find? (fun e=>kR (.int .i64 c) e.1)=(l.find? fun p=>c==p.1).map fun p=>((.int .i64 p.1:AV),p.2.av)
 | []=>rfl
 | p::l=>by
  rw [aG,lc,lc,sE c l]
  show (match c==p.1 with | true=>_ | false=>_)=_
  cases c==p.1<;>rfl
theorem IB (a b:Wy):kR a.av b.av=(a==b):=by
 obtain⟨p,i,f⟩:=a
 obtain⟨p',i',f'⟩:=b
 rw [dT]
 simp only [Wy.av,kR,sw,tM,aB,beq_iff_eq,Wy.mk.injEq,and_true,Int.ofNat_inj,Int.natCast_inj]
theorem vO {α:Type} (f:α→AV) (w:Wy):∀ l:List (Wy × α),(l.map fun p=>(p.1.av,f p.2)).find? (fun e=>kR w.av e.1)=(l.find? fun p=>w==p.1).map fun p=>(p.1.av,f p.2)
 | []=>rfl
 | p::l=>by
  rw [aG,lc,lc,vO f w l,IB]
  cases w==p.1<;>rfl
theorem Cw (w:Wy):fI Tryz.prog 140 w.av=true:=jZ _ _ _
theorem BQ (c:Int):(vn.find? (fun e=>kR (.int .i64 c) e.1)=(BR.find? fun p=>c==p.1).map fun p=>((.int .i64 p.1:AV),p.2.av))∧vn.all (fun e=>fI Tryz.prog 3 e.1)=true:=by
 constructor
 ·exact sE c BR
 ·unfold vn
  rw [bT]
  exact aF.2 fun p _=>by simp only [fI,be,go_sem]
theorem BI (w:Wy):(GU.find? (fun e=>kR w.av e.1)=(BJ.find? fun p=>w==p.1).map fun p=>(p.1.av,p.2.av))∧GU.all (fun e=>fI Tryz.prog 140 e.1)=true:=by
 constructor
 ·exact vO Ac.av w BJ
 ·unfold GU
  rw [bT]
  exact aF.2 fun p _=>Cw _
theorem A7 (w:Wy):(E_.find? (fun e=>kR w.av e.1)=(yB.find? fun p=>w==p.1).map fun p=>(p.1.av,uX p.2))∧E_.all (fun e=>fI Tryz.prog 140 e.1)=true:=by
 constructor
 ·exact vO uX w yB
 ·unfold E_
  rw [bT]
  exact aF.2 fun p _=>Cw _
theorem jj {α β:Type} (f:α × β→Bool) (l:List (α × β)):l.find? f=none∨∃ j a,l.find? f=some (j,a):=by
 cases l.find? f with
 | none=>exact .inl rfl
 | some q=>exact .inr ⟨q.1,q.2,rfl⟩
theorem Mq (w0:World) (S:List aH) (c:Int) (pr fi:Nat) (pars:List (List Int)) (it tx:List UInt8) (R:Rt) (h:R (.ret (.sval false ([ez 1 c 0].map Ac.av))) S):az Tryz.prog w0 34 [.agg [.int .i64 1,.int .i64 c,.int .u8 pr,.int .u8 fi,.sval false (pars.map dA),.str it,.str tx]] S R:=by
 have hac:=x_ w0
 simp only [aG,aL,i6,cM] at h
 refine eN Tryz.func34 rfl Tryz.ntmps34 fun hO=>?_
 repeat' first | refine st ?_ | (refine ca ?_;apply hac) | (refine br ?_ ?_<;>intro hb) | fail
 all_goals refine fR Tryz.results34 ?_
 all_goals exact h
theorem Mp (w0:World) (S:List aH) (c:Int) (pr fi:Nat) (pars:List (List Int)) (it tx:List UInt8) (R:Rt) (h:R (.ret (.sval false ((BS c).toList.map Ac.av))) S):az Tryz.prog w0 34 [.agg [.int .i64 2,.int .i64 c,.int .u8 pr,.int .u8 fi,.sval false (pars.map dA),.str it,.str tx]] S R:=by
 have hp:=KR w0
 obtain⟨hf,ha⟩:=BQ c
 unfold BS at h
 rcases jj (fun p=>c==p.1) BR with hl | ⟨j,a,hl⟩
 ·rw [hl] at hf h
  simp only [kj,pG,aL] at hf h
  simp only [go_sem] at hf ha
  clear hl
  refine eN Tryz.func34 rfl Tryz.ntmps34 fun hO=>?_
  repeat' first | refine st ?_ | (refine ca ?_;apply hp) | (refine br ?_ ?_<;>intro hb) | refine sd ?_ | refine sx ?_ | apply aE | (apply aO;(· decide +kernel)) | refine bd ?_ ?_ | (refine cd ?_;apply hp) | fail
  all_goals refine fR Tryz.results34 ?_
  all_goals exact h
 ·rw [hl] at hf h
  obtain⟨k1,k2,k3,k4,k5,k6⟩:=a
  simp only [dF,iJ,aG,aL,Ac.av] at hf h
  simp only [go_sem] at hf ha
  clear hl
  refine eN Tryz.func34 rfl Tryz.ntmps34 fun hO=>?_
  repeat' first | refine st ?_ | (refine ca ?_;apply hp) | (refine br ?_ ?_<;>intro hb) | refine sd ?_ | refine sx ?_ | apply aE | (apply aO;(· decide +kernel)) | refine bd ?_ ?_ | (refine cd ?_;apply hp) | fail
  all_goals refine fR Tryz.results34 ?_
  all_goals exact h
theorem Mo (w0:World) (S:List aH) (c:Int) (pr fi:Nat) (pars:List (List Int)) (it tx:List UInt8) (R:Rt) (h:R (.ret (.sval false ((BL ⟨0,it,fi⟩).toList.map Ac.av))) S):az Tryz.prog w0 34 [.agg [.int .i64 3,.int .i64 c,.int .u8 pr,.int .u8 fi,.sval false (pars.map dA),.str it,.str tx]] S R:=by
 have hp:=EA w0
 obtain⟨hf,ha⟩:=BI ⟨0,it,fi⟩
 unfold BL at h
 rcases jj (fun p=>(⟨0,it,fi⟩:Wy)==p.1) BJ with hl | ⟨j,a,hl⟩
 ·rw [hl] at hf h
  simp only [kj,pG,aL] at hf h
  simp only [Wy.av,bU,go_sem] at hf ha
  clear hl
  refine eN Tryz.func34 rfl Tryz.ntmps34 fun hO=>?_
  repeat' first | refine st ?_ | (refine ca ?_;apply hp) | (refine br ?_ ?_<;>intro hb) | refine sd ?_ | refine sx ?_ | apply aE | (apply aO;(· decide +kernel)) | refine bd ?_ ?_ | (refine cd ?_;apply hp) | fail
  all_goals refine fR Tryz.results34 ?_
  all_goals exact h
 ·rw [hl] at hf h
  obtain⟨k1,k2,k3,k4,k5,k6⟩:=a
  simp only [dF,iJ,aG,aL,Ac.av] at hf h
  simp only [Wy.av,bU,go_sem] at hf ha
  clear hl
  refine eN Tryz.func34 rfl Tryz.ntmps34 fun hO=>?_
  repeat' first | refine st ?_ | (refine ca ?_;apply hp) | (refine br ?_ ?_<;>intro hb) | refine sd ?_ | refine sx ?_ | apply aE | (apply aO;(· decide +kernel)) | refine bd ?_ ?_ | (refine cd ?_;apply hp) | fail
  all_goals refine fR Tryz.results34 ?_
  all_goals exact h
theorem Mm (w0:World) (S:List aH) (c:Int) (pr fi:Nat) (pars:List (List Int)) (it tx:List UInt8) (hQ:lX w0) (ht:tx.length≤8192) (R:Rt) (h:R (.ret (.sval false ((fO tx).toList.map Ac.av))) S):az Tryz.prog w0 34 [.agg [.int .i64 5,.int .i64 c,.int .u8 pr,.int .u8 fi,.sval false (pars.map dA),.str it,.str tx]] S R:=by
 have hp:=fun S'=>hQ S' tx ht
 cases hl:fO tx with
 | none =>
  rw [hl] at hp h
  simp only [yM,zeroA,Ac.av,pG,aL] at hp h
  clear hl
  refine eN Tryz.func34 rfl Tryz.ntmps34 fun hO=>?_
  repeat' first | refine st ?_ | (refine ca ?_;apply hp) | (refine br ?_ ?_<;>intro hb) | fail
  all_goals refine fR Tryz.results34 ?_
  all_goals exact h
 | some a =>
  rw [hl] at hp h
  obtain⟨k1,k2,k3,k4,k5,k6⟩:=a
  simp only [yM,Ac.av,iJ,aG,aL] at hp h
  clear hl
  refine eN Tryz.func34 rfl Tryz.ntmps34 fun hO=>?_
  repeat' first | refine st ?_ | (refine ca ?_;apply hp) | (refine br ?_ ?_<;>intro hb) | fail
  all_goals refine fR Tryz.results34 ?_
  all_goals exact h
theorem Mr (k:Int) (h1:(k==1)=false) (h2:(k==2)=false) (h3:(k==3)=false) (h4:(k==4)=false) (h5:(k==5)=false) (w0:World) (S:List aH) (c:Int) (pr fi:Nat) (pars:List (List Int)) (it tx:List UInt8) (R:Rt) (h:R (.ret (.sval false (([]:List Ac).map Ac.av))) S):az Tryz.prog w0 34 [.agg [.int .i64 k,.int .i64 c,.int .u8 pr,.int .u8 fi,.sval false (pars.map dA),.str it,.str tx]] S R:=by
 simp only [aL] at h
 refine eN Tryz.func34 rfl Tryz.ntmps34 fun hO=>?_
 repeat' first | refine st ?_ | (refine br ?_ ?_<;>intro hb) | fail
 all_goals refine fR Tryz.results34 ?_
 all_goals exact h
theorem xR {w:Wy}{k:Int} (h:nL w=some (.const k)):k=12∨k=13∨k=15:=by
 unfold nL at h
 obtain⟨p,hp,e⟩:=aW.1 h
 have hm:=qu hp
 have hall:(yB.all fun p=>match p.2 with | .const k=>k==12||(k==13||k==15) | _=>true)=true:=by decide
 have:=aF.1 hall p hm
 rw [e] at this
 simpa using this
theorem QM (w0:World) (hP:tj w0) (S:List aH) (l:List (List Int)) (hl:ep l=true) (R:Rt) (h:R (.ret (.sval false ((mQ l).map Ac.av))) S):az Tryz.prog w0 154 [.sval false (l.map dA)] S R:=by
 have hp:=fun S'=>hP S' l hl
 generalize mQ l=x at h hp
 clear hP hl
 refine eN Tryz.func154 rfl Tryz.ntmps154 fun hO=>?_
 repeat' first | refine st ?_ | (refine ca ?_;apply hp) | (refine br ?_ ?_<;>intro hb) | fail
 refine fR Tryz.results154 ?_
 exact h
theorem Mn (w0:World) (S:List aH) (c:Int) (pr fi:Nat) (pars:List (List Int)) (it tx:List UInt8) (hok:ep pars=true) (hP:nL ⟨pr,it,fi⟩=some .pens→tj w0) (R:Rt) (h:R (.ret (.sval false ((zk ⟨4,c,pr,fi,pars,it,tx⟩).map Ac.av))) S):az Tryz.prog w0 34 [.agg [.int .i64 4,.int .i64 c,.int .u8 pr,.int .u8 fi,.sval false (pars.map dA),.str it,.str tx]] S R:=by
 have hp:=Mj w0
 obtain⟨hf,ha⟩:=A7 ⟨pr,it,fi⟩
 have hlen:pars.length≤100000:=by
  unfold ep at hok
  simp only [aB,decide_eq_true_eq] at hok
  omega
 have hq:zk ⟨4,c,pr,fi,pars,it,tx⟩=match nL ⟨pr,it,fi⟩ with | some q=>gH q pars | none=>[]:=rfl
 have hcc:=fun k=>xR (w:=⟨pr,it,fi⟩) (k:=k)
 rw [hq] at h
 clear hq
 unfold nL at h hP hcc
 rcases jj (fun p=>(⟨pr,it,fi⟩:Wy)==p.1) yB with hl | ⟨j,q,hl⟩
 ·rw [hl] at hf h
  simp only [kj,aL] at hf h
  simp only [Wy.av,bU,go_sem] at hf ha
  clear hl hP hcc hok hlen
  refine eN Tryz.func34 rfl Tryz.ntmps34 fun hO=>?_
  repeat' first | refine st ?_ | (refine ca ?_;apply hp) | (refine br ?_ ?_<;>intro hb) | refine sd ?_ | refine sx ?_ | apply aE | (apply aO;(· decide +kernel)) | refine bd ?_ ?_ | (refine cd ?_;apply hp) | fail
  all_goals refine fR Tryz.results34 ?_
  all_goals exact h
 ·rw [hl] at hf h hP hcc
  simp only [dF] at hf h hP hcc
  clear hl
  cases q with
  | cnt k =>
   have hk:=fun S'=>Dp w0 S' pars _ k k (kF pars) 0 (fun S'=>q4 w0 S' pars k)
   simp only [gH,aG,aL,i6] at h
   simp only [cM] at h hk
   simp only [Wy.av,bU,uX,gU,go_sem] at hf ha
   clear hP hcc hok hlen
   refine eN Tryz.func34 rfl Tryz.ntmps34 fun hO=>?_
   repeat' first | refine st ?_ | (refine ca ?_;first | apply hp | apply hk) | (refine br ?_ ?_<;>intro hb) | refine sd ?_ | refine sx ?_ | apply aE | (apply aO;(· decide +kernel)) | refine bd ?_ ?_ | (refine cd ?_;first | apply hp | apply hk) | fail
   all_goals refine fR Tryz.results34 ?_
   all_goals exact h
  | first k =>
   have hk:=fun S'=>Dp w0 S' pars _ k k (eE pars 0 0) 0 (fun S'=>q5 w0 S' pars k)
   simp only [gH,aG,aL,i6] at h
   simp only [cM] at h hk
   simp only [Wy.av,bU,uX,gU,go_sem] at hf ha
   clear hP hcc hok hlen
   refine eN Tryz.func34 rfl Tryz.ntmps34 fun hO=>?_
   repeat' first | refine st ?_ | (refine ca ?_;first | apply hp | apply hk) | (refine br ?_ ?_<;>intro hb) | refine sd ?_ | refine sx ?_ | apply aE | (apply aO;(· decide +kernel)) | refine bd ?_ ?_ | (refine cd ?_;first | apply hp | apply hk) | fail
   all_goals refine fR Tryz.results34 ?_
   all_goals exact h
  | way k n =>
   have hk:=fun S'=>Ls w0 S' pars _ k n k n (kF pars) (fun S'=>q6 w0 S' pars k n)
   simp only [gH,aG,aL,i6] at h
   simp only [cM] at h hk
   simp only [Wy.av,bU,uX,gU,go_sem] at hf ha
   clear hP hcc hok hlen
   refine eN Tryz.func34 rfl Tryz.ntmps34 fun hO=>?_
   repeat' first | refine st ?_ | (refine ca ?_;first | apply hp | apply hk) | (refine br ?_ ?_<;>intro hb) | refine sd ?_ | refine sx ?_ | apply aE | (apply aO;(· decide +kernel)) | refine bd ?_ ?_ | (refine cd ?_;first | apply hp | apply hk) | fail
   all_goals refine fR Tryz.results34 ?_
   all_goals exact h
  | cursor =>
   have hk:=fun S'=>t6 w0 S' pars _ 19 (kF pars) (max 1 (eE pars 1 0)) (fun S'=>q7 w0 S' pars)
   simp only [gH,aG,aL,i6] at h
   simp only [cM] at h hk
   simp only [Wy.av,bU,uX,gU,go_sem] at hf ha
   clear hP hcc hok hlen
   refine eN Tryz.func34 rfl Tryz.ntmps34 fun hO=>?_
   repeat' first | refine st ?_ | (refine ca ?_;first | apply hp | apply hk) | (refine br ?_ ?_<;>intro hb) | refine sd ?_ | refine sx ?_ | apply aE | (apply aO;(· decide +kernel)) | refine bd ?_ ?_ | (refine cd ?_;first | apply hp | apply hk) | fail
   all_goals refine fR Tryz.results34 ?_
   all_goals exact h
  | modes k b =>
   have hk:=fun S'=>QI w0 S' pars k b hlen
   simp only [Wy.av,bU,uX,gU,go_sem] at hf ha
   have h:R (.ret (.sval false ((gH (.modes k b) pars).map Ac.av))) S:=h
   generalize gH (.modes k b) pars=z at h hk
   clear hP hcc hok hlen
   refine eN Tryz.func34 rfl Tryz.ntmps34 fun hO=>?_
   repeat' first | refine st ?_ | (refine ca ?_;first | apply hp | apply hk) | (refine br ?_ ?_<;>intro hb) | refine sd ?_ | refine sx ?_ | apply aE | (apply aO;(· decide +kernel)) | refine bd ?_ ?_ | (refine cd ?_;first | apply hp | apply hk) | fail
   all_goals refine fR Tryz.results34 ?_
   all_goals exact h
  | ask n =>
   have hk:=fun S'=>q8 w0 S' pars n
   simp only [Wy.av,bU,uX,gU,go_sem] at hf ha
   have h:R (.ret (.sval false ((gH (.ask n) pars).map Ac.av))) S:=h
   generalize gH (.ask n) pars=z at h hk
   clear hP hcc hok hlen
   refine eN Tryz.func34 rfl Tryz.ntmps34 fun hO=>?_
   repeat' first | refine st ?_ | (refine ca ?_;first | apply hp | apply hk) | (refine br ?_ ?_<;>intro hb) | refine sd ?_ | refine sx ?_ | apply aE | (apply aO;(· decide +kernel)) | refine bd ?_ ?_ | (refine cd ?_;first | apply hp | apply hk) | fail
   all_goals refine fR Tryz.results34 ?_
   all_goals exact h
  | margins =>
   have hk:=fun S'=>t6 w0 S' pars _ 38 (eE pars 0 0) (eE pars 1 0) (fun S'=>q9 w0 S' pars)
   simp only [gH,aG,aL,i6] at h
   simp only [cM] at h hk
   simp only [Wy.av,bU,uX,gU,go_sem] at hf ha
   clear hP hcc hok hlen
   refine eN Tryz.func34 rfl Tryz.ntmps34 fun hO=>?_
   repeat' first | refine st ?_ | (refine ca ?_;first | apply hp | apply hk) | (refine br ?_ ?_<;>intro hb) | refine sd ?_ | refine sx ?_ | apply aE | (apply aO;(· decide +kernel)) | refine bd ?_ ?_ | (refine cd ?_;first | apply hp | apply hk) | fail
   all_goals refine fR Tryz.results34 ?_
   all_goals exact h
  | const k =>
   rcases hcc k rfl with rfl | rfl | rfl
   ·
    have hk:=fun S'=>t6 w0 S' pars _ 12 0 0 (fun S'=>QO w0 S' pars)
    simp only [gH,aG,aL,i6] at h
    simp only [cM] at h hk
    simp only [Wy.av,bU,uX,gU,if_true,if_false,show ((13:Int)=12)=False from by decide,show ((15:Int)=12)=False from by decide,show ((15:Int)=13)=False from by decide,go_sem] at hf ha
    clear hP hcc hok hlen
    refine eN Tryz.func34 rfl Tryz.ntmps34 fun hO=>?_
    repeat' first | refine st ?_ | (refine ca ?_;first | apply hp | apply hk) | (refine br ?_ ?_<;>intro hb) | refine sd ?_ | refine sx ?_ | apply aE | (apply aO;(· decide +kernel)) | refine bd ?_ ?_ | (refine cd ?_;first | apply hp | apply hk) | fail
    all_goals refine fR Tryz.results34 ?_
    all_goals exact h
   ·
    have hk:=fun S'=>t6 w0 S' pars _ 13 0 0 (fun S'=>QN w0 S' pars)
    simp only [gH,aG,aL,i6] at h
    simp only [cM] at h hk
    simp only [Wy.av,bU,uX,gU,if_true,if_false,show ((13:Int)=12)=False from by decide,show ((15:Int)=12)=False from by decide,show ((15:Int)=13)=False from by decide,go_sem] at hf ha
    clear hP hcc hok hlen
    refine eN Tryz.func34 rfl Tryz.ntmps34 fun hO=>?_
    repeat' first | refine st ?_ | (refine ca ?_;first | apply hp | apply hk) | (refine br ?_ ?_<;>intro hb) | refine sd ?_ | refine sx ?_ | apply aE | (apply aO;(· decide +kernel)) | refine bd ?_ ?_ | (refine cd ?_;first | apply hp | apply hk) | fail
    all_goals refine fR Tryz.results34 ?_
    all_goals exact h
   ·
    have hk:=fun S'=>t6 w0 S' pars _ 15 0 0 (fun S'=>QK w0 S' pars)
    simp only [gH,aG,aL,i6] at h
    simp only [cM] at h hk
    simp only [Wy.av,bU,uX,gU,if_true,if_false,show ((13:Int)=12)=False from by decide,show ((15:Int)=12)=False from by decide,show ((15:Int)=13)=False from by decide,go_sem] at hf ha
    clear hP hcc hok hlen
    refine eN Tryz.func34 rfl Tryz.ntmps34 fun hO=>?_
    repeat' first | refine st ?_ | (refine ca ?_;first | apply hp | apply hk) | (refine br ?_ ?_<;>intro hb) | refine sd ?_ | refine sx ?_ | apply aE | (apply aO;(· decide +kernel)) | refine bd ?_ ?_ | (refine cd ?_;first | apply hp | apply hk) | fail
    all_goals refine fR Tryz.results34 ?_
    all_goals exact h
  | pens =>
   have hk:=fun S'=>QM w0 (hP rfl) S' pars hok
   simp only [Wy.av,bU,uX,gU,go_sem] at hf ha
   have h:R (.ret (.sval false ((mQ pars).map Ac.av))) S:=h
   generalize mQ pars=z at h hk
   clear hP hcc hok hlen
   refine eN Tryz.func34 rfl Tryz.ntmps34 fun hO=>?_
   repeat' first | refine st ?_ | (refine ca ?_;first | apply hp | apply hk) | (refine br ?_ ?_<;>intro hb) | refine sd ?_ | refine sx ?_ | apply aE | (apply aO;(· decide +kernel)) | refine bd ?_ ?_ | (refine cd ?_;first | apply hp | apply hk) | fail
   all_goals refine fR Tryz.results34 ?_
   all_goals exact h
  | shape =>
   have hk:=fun S'=>t6 w0 S' pars _ 40 (eE pars 0 0) 0 (fun S'=>QL w0 S' pars)
   simp only [gH,aG,aL,i6] at h
   simp only [cM] at h hk
   simp only [Wy.av,bU,uX,gU,go_sem] at hf ha
   clear hP hcc hok hlen
   refine eN Tryz.func34 rfl Tryz.ntmps34 fun hO=>?_
   repeat' first | refine st ?_ | (refine ca ?_;first | apply hp | apply hk) | (refine br ?_ ?_<;>intro hb) | refine sd ?_ | refine sx ?_ | apply aE | (apply aO;(· decide +kernel)) | refine bd ?_ ?_ | (refine cd ?_;first | apply hp | apply hk) | fail
   all_goals refine fR Tryz.results34 ?_
   all_goals exact h
  | askMode n =>
   have hk:=fun S'=>Dp w0 S' pars _ n 43 (eE pars 0 0) n (fun S'=>QJ w0 S' pars n)
   simp only [gH,aG,aL,i6] at h
   simp only [cM] at h hk
   simp only [Wy.av,bU,uX,gU,go_sem] at hf ha
   clear hP hcc hok hlen
   refine eN Tryz.func34 rfl Tryz.ntmps34 fun hO=>?_
   repeat' first | refine st ?_ | (refine ca ?_;first | apply hp | apply hk) | (refine br ?_ ?_<;>intro hb) | refine sd ?_ | refine sx ?_ | apply aE | (apply aO;(· decide +kernel)) | refine bd ?_ ?_ | (refine cd ?_;first | apply hp | apply hk) | fail
   all_goals refine fR Tryz.results34 ?_
   all_goals exact h
def yk (a:Ac):Prop:=(-100000≤a.m∧a.m≤100000)∧a.text.length≤8192
theorem uP {l:List (List Int)} (h:ep l=true) (i:Int):0≤eE l i 0∧eE l i 0≤9999:=by
 unfold ep at h
 simp only [aB,ax,List.any_eq_false] at h
 unfold eE
 split
 ·omega
 ·split
  ·next n s hx =>
   have hm:=h.2.2 _ (aI hx)
   unfold jJ at hm
   simp only [fc,not_or,Bool.not_eq_true,fo,cy] at hm
   have hn:=hm.2.2.1
   unfold nf at hn
   simp only [cy,decide_eq_false_iff_not] at hn
   split<;>omega
  ·omega
theorem G4 {l:List (List Int)} (h:ep l=true):1≤kF l∧kF l≤9999:=by
 have:=uP h 0
 unfold kF
 split<;>omega
theorem nj (k n m:Int) (h1 : -100000≤m) (h2:m≤100000):yk (ez k n m):=⟨⟨h1,h2⟩,by simp [ez]⟩
theorem Kq {c:Prop} [Decidable c] {x a:Ac}{r:Option Ac} (h:(if c then some x else r)=some a):x=a∨r=some a:=by
 split at h
 ·cases h;exact .inl rfl
 ·exact .inr h
theorem Lv (n m:Int) (h1 : -100000≤m) (h2:m≤100000):yk (eu n m):=⟨⟨h1,h2⟩,by simp [eu]⟩
theorem Mc (n k c:Int):yk (fC n k c):=⟨by simp [fC],by simp [fC]⟩
theorem H8 {v:Int}{a:Ac} (h:rV v=some a):yk a:=by
 unfold rV at h
 iterate 26 (rcases Kq h with h | h;· subst h;first | exact Lv _ _ (by decide) (by decide) | exact Mc _ _ _)
 cases h
theorem rj {n how:Int}{l:List Int}{a:Ac} (h:g9 n how l=some a):yk a:=by
 unfold g9 at h
 repeat' split at h
 all_goals first | (cases h;done) | (cases h;exact⟨by simp [fC],by simp [fC]⟩)
theorem FZ {s:List Int}{a:Ac} (h:gS s=some a):yk a:=by
 unfold gS at h
 split at h
 ·split at h
  ·next h5=>cases h;exact⟨⟨by simp only [eu];omega,by simp only [eu];omega⟩,by simp [eu]⟩
  ·cases h
 ·split at h
  ·cases h
  ·split at h
   ·exact rj h
   ·split at h
    ·exact rj h
    ·cases h
theorem GK {l:List (List Int)}{a:Ac} (h:(g_ l).1=some a):yk a:=by
 unfold g_ at h
 split at h
 ·exact FZ h
 ·split at h
  ·split at h
   ·split at h
    ·exact rj h
    ·cases h
   ·split at h
    ·split at h
     ·exact rj h
     ·cases h
    ·exact H8 h
  ·exact H8 h
theorem Ab:∀ (k:Nat) (l:List (List Int)),∀ a∈kp k l,yk a
 | 0,_,a,h=>by cases h
 | k+1,l,a,h=>by
  unfold kp at h
  split at h
  ·cases h
  ·rcases dg.1 h with h | h
   ·exact GK (by simpa using h)
   ·exact Ab k _ a h
theorem FY (l:List (List Int)):∀ a∈mQ l,yk a:=by
 intro a h
 unfold mQ at h
 split at h
 ·rw [bC.1 h];exact⟨by decide,by decide⟩
 ·exact Ab _ _ a h
def ta:Sq→Bool
 | .modes _ b=>decide (-1000≤b)&&decide (b≤1000)
 | .askMode n=>decide (-1000≤n)&&decide (n≤1000)
 | _=>true
theorem Lg {q:Sq}{l:List (List Int)} (h:ep l=true) (hq:ta q=true):∀ a∈gH q l,yk a:=by
 have h0:=uP h 0
 have h1:=uP h 1
 have hc:=G4 h
 intro a ha
 cases q with
 | cnt k=>rw [bC.1 ha];exact nj _ _ _ (by omega) (by omega)
 | first k=>rw [bC.1 ha];exact nj _ _ _ (by omega) (by omega)
 | way k n=>rw [bC.1 ha];exact nj _ _ _ (by omega) (by omega)
 | cursor=>rw [bC.1 ha];exact nj _ _ _ (by omega) (by omega)
 | modes k b =>
  simp only [ta,aB,decide_eq_true_eq] at hq
  obtain⟨i,_,rfl⟩:=aX.1 ha
  exact nj _ _ _ (by omega) (by omega)
 | ask n =>
  simp only [gH] at ha
  split at ha
  ·rw [bC.1 ha];exact nj _ _ _ (by omega) (by omega)
  ·cases ha
 | margins=>rw [bC.1 ha];exact nj _ _ _ (by omega) (by omega)
 | const k=>rw [bC.1 ha];exact nj _ _ _ (by omega) (by omega)
 | pens=>exact FY l a ha
 | shape=>rw [bC.1 ha];exact nj _ _ _ (by omega) (by omega)
 | askMode n =>
  simp only [ta,aB,decide_eq_true_eq] at hq
  rw [bC.1 ha];exact nj _ _ _ (by omega) (by omega)
theorem CY {w:Wy}{q:Sq} (h:nL w=some q):ta q=true:=by
 unfold nL at h
 obtain⟨p,hp,rfl⟩:=aW.1 h
 have hm:=qu hp
 have hall:(yB.all fun p=>ta p.2)=true:=by decide
 exact aF.1 hall p hm
theorem xC {α β:Type}{f:α × β→Bool}{l:List (α × β)}{g:β→Bool}{b:β} (hg:l.all (fun p=>g p.2)=true) (h:(l.find? f).map (·.2)=some b):g b=true:=by
 obtain⟨p,hp,rfl⟩:=aW.1 h
 exact aF.1 hg p (qu hp)
def vp (a:Ac):Bool:=decide (-100000≤a.m)&&(decide (a.m≤100000)&&decide (a.text.length≤8192))
theorem xc {a:Ac} (h:vp a=true):yk a:=by
 unfold vp at h
 simp only [aB,decide_eq_true_eq] at h
 exact⟨⟨h.1,h.2.1⟩,h.2.2⟩
theorem F0 {s:List UInt8}{a:Ac} (h:fO s=some a):yk a:=by
 obtain⟨⟨u,hu⟩,_⟩:=xf h
 have hl:=(xg hu).2.2.1
 rcases qB hu with⟨t,rfl,_,rfl⟩ | ⟨n,c,rfl,_⟩ | ⟨t,rfl,ht,_⟩
 ·exact⟨by simp,by simp at hl ⊢;omega⟩
 ·exact⟨by simp,by simp⟩
 ·exact⟨by simp,by simp;omega⟩
theorem Im {e:Ev} (h:lj e=true):∀ a∈td e,yk a:=by
 unfold lj at h
 simp only [aB] at h
 have hr:=h.2
 intro a ha
 unfold td at ha
 split at ha
 ·rw [bC.1 ha];exact nj _ _ _ (by decide) (by decide)
 ·split at ha
  ·have ha:BS e.code=some a:=by simpa using ha
   exact xc (xC (g:=vp) (l:=BR) (by decide) ha)
  ·split at ha
   ·have ha:BL ⟨0,e.inter,e.fin⟩=some a:=by simpa using ha
    exact xc (xC (g:=vp) (l:=BJ) (by decide) ha)
   ·split at ha
    ·unfold zk at ha
     split at ha
     ·next q hq=>exact Lg hr (CY hq) a ha
     ·cases ha
    ·split at ha
     ·exact F0 (by simpa using ha)
     ·cases ha
theorem Ns (w0:World) (hQ:lX w0) (S:List aH) (e:Ev) (hr:ep e.pars=true) (ht:e.text.length≤8192) (hP:e.kind=4→nL ⟨e.priv,e.inter,e.fin⟩=some .pens→tj w0) (R:Rt) (h:R (.ret (.sval false ((td e).map Ac.av))) S):az Tryz.prog w0 34 [e.av] S R:=by
 obtain⟨k,c,pr,fi,pars,it,tx⟩:=e
 unfold td at h
 simp only at h hr ht hP
 unfold Ev.av
 simp only
 by_cases h1:k=1
 ·subst h1;rw [if_pos rfl] at h;exact Mq w0 S c pr fi pars it tx R h
 rw [if_neg h1] at h
 by_cases h2:k=2
 ·subst h2;rw [if_pos rfl] at h;exact Mp w0 S c pr fi pars it tx R h
 rw [if_neg h2] at h
 by_cases h3:k=3
 ·subst h3;rw [if_pos rfl] at h;exact Mo w0 S c pr fi pars it tx R h
 rw [if_neg h3] at h
 by_cases h4:k=4
 ·subst h4;rw [if_pos rfl] at h;exact Mn w0 S c pr fi pars it tx hr (hP rfl) R h
 rw [if_neg h4] at h
 by_cases h5:k=5
 ·subst h5;rw [if_pos rfl] at h;exact Mm w0 S c pr fi pars it tx hQ ht R h
 rw [if_neg h5] at h
 exact Mr k (beq_eq_false_iff_ne.2 h1) (beq_eq_false_iff_ne.2 h2) (beq_eq_false_iff_ne.2 h3) (beq_eq_false_iff_ne.2 h4) (beq_eq_false_iff_ne.2 h5) w0 S c pr fi pars it tx R h
theorem pZ:∀ (k:Nat) (l:List (List Int)),(kp k l).length≤k
 | 0,_=>bg _
 | k+1,l=>by
  unfold kp
  split
  ·simp
  ·have:=pZ k (l.drop (g_ l).2)
   have h2:(g_ l).1.toList.length≤1:=by cases (g_ l).1<;>simp
   rw [ab];omega
theorem jb {α:Type} (o:Option α):o.toList.length≤1:=by cases o<;>simp
theorem G_ {e:Ev} (h:lj e=true):(td e).length≤100:=by
 unfold lj ep at h
 simp only [aB,decide_eq_true_eq] at h
 have hl:=h.2.1
 unfold td
 split
 ·simp
 ·split
  ·have:=jb (BS e.code);omega
  ·split
   ·have:=jb (BL ⟨0,e.inter,e.fin⟩);omega
   ·split
    ·unfold zk
     split
     ·next q _ =>
      cases q
      all_goals simp only [gH,ah,aj,bB,List.length_range]
      all_goals (try omega)
      ·split<;>simp
      ·unfold mQ
       split
       ·simp
       ·have:=pZ e.pars.length e.pars;omega
     ·simp
    ·split
     ·have:=jb (fO e.text);omega
     ·simp
theorem BC {α:Type}{p:α→Bool}{l:List α}{i:Nat}{x:α} (h:l[i]? = some x):(l.take (i+1)).filter p=(l.take i).filter p++(if p x then [x] else []):=by
 rw [pI,h,HE]
 congr 1
 simp only [iJ]
 cases hp:p x
 ·rw [List.filter_cons_of_neg (by simp [hp])];rfl
 ·rw [List.filter_cons_of_pos hp];rfl
theorem Nr (w0:World) (hM:lY w0) (hW:lW w0) (hQ:nJ w0) (hQ2:lX w0) (S:List aH) (e:Ev) (hl:oI e.pars) (ht:e.text.length≤8192) (hP:lj e=true→e.kind=4→nL ⟨e.priv,e.inter,e.fin⟩=some .pens→tj w0) (R:Rt)
  (h:R (.ret (.tup [.sval false ((wo e).map Ac.av),.int .i64 (if lj e then 0 else 201)])) S):az Tryz.prog w0 17 [e.av] S R:=by
 have hck:=fun S'=>x9 w0 S' e hl
 unfold wo at h
 cases hok:lj e with
 | false =>
  rw [hok] at h hck
  simp only [du,if_false,aL] at h hck
  unfold Ev.av at hck ⊢
  clear hM hW hQ hQ2 hl ht hP hok
  refine eN Tryz.func17 rfl Tryz.ntmps17 fun hO=>?_
  repeat' first | refine st ?_ | (refine ca ?_;apply hck) | (refine br ?_ ?_<;>intro hb) | fail
  refine fR Tryz.results17 ?_
  exact h
 | true =>
  have hokr:ep e.pars=true:=by unfold lj at hok;simp only [aB] at hok;exact hok.2
  have hal:=fun S'=>Ns w0 hQ2 S' e hokr ht (hP hok)
  have hB:=Im hok
  have hLn:=G_ hok
  rw [hok] at h hck
  simp only [if_true] at h hck
  generalize td e=L at h hal hB hLn
  have hcf:=fun S' (a:Ac) (hb:yk a)=>ng w0 hM hW hQ S' a ⟨by have:=hb.1;omega,by have:=hb.1;omega⟩ (by have:=hb.2;omega)
  unfold Ev.av at hck hal ⊢
  have H:=au h
  have HB:=au hB
  have HC:=au hcf
  clear hM hW hQ hQ2 hl ht hP hok hokr hcf hB h
  refine eN Tryz.func17 rfl Tryz.ntmps17 fun hO=>?_
  repeat' first | refine st ?_ | (refine ca ?_;first | apply hck | apply hal) | (refine br ?_ ?_<;>intro hb) | fail
  refine nW (t:=2) (e:=25) (sz:=6) ss (by decide) ?_
  refine dX (fun (j:Nat) env S'=>j≤L.length∧env 1000000=.dfr []∧env 2=.sown (S.length+1) ((L.take j).filter dU).length ((L.take j).filter dU).length∧env 13=.sval false (L.map Ac.av)∧env 14=.int .i64 (L.length:Int)∧env 15=.int .i64 (j:Int) ∧
   S'=S++[.cells [.int .i64 e.kind,.int .i64 e.code,.int .u8 e.priv,.int .u8 e.fin,.sval false (e.pars.map dA),.str e.inter,.str e.text] none,.arr 25 6 0 ((L.take j).filter dU).length (((L.take j).filter dU).map Ac.av)]) (fun j=>L.length - j) 0 ?_ ?_
  ·exact⟨bI _,ss,ss,ss,ss,ss,by simp only [ao,List.filter_nil,aL,aj];(simp only [go_sem, *];try rfl)⟩
  ·rintro j env S' ⟨hj,e0,f2,f13,f14,f15,rfl⟩ IH
   have HI:=au IH
   clear IH hck hal
   have hfl:((L.take j).filter dU).length≤100:=fb (List.length_filter_le _ _) (fb (List.length_take_le' _ _) hLn)
   by_cases hlt:j<L.length
   ·obtain⟨a,hx⟩:∃ a,L[j]? = some a:=⟨_,aC hlt⟩
    have h1:decide ((j:Int)<(L.length:Int))=true:=by simpa using hlt
    have hw:ar.wrap ((j:Int)+1)=((j+1:Nat):Int):=by rw [ay _ (by omega)];omega
    have Hsu:=au (BC (p:=dU) hx)
    have hc:=fun S'=>HC.out S' a (HB.out a (aI hx))
    generalize (L.take j).filter dU=F at hfl Hsu f2 ⊢
    have hb:(F.length+1) * 56≤140737488355328:=by omega
    have Hlt:=au hlt
    obtain⟨k1,k2,k3,k4,k5,k6⟩:=a
    have hav:Ac.av ⟨k1,k2,k3,k4,k5,k6⟩=.agg [.int .i64 k1,.int .i64 k2,.int .i64 k3,.int .i64 k4,.int .i64 k5,.str k6]:=rfl
    rw [hav] at hc
    clear hlt hj hfl hLn
    cases ha:dU ⟨k1,k2,k3,k4,k5,k6⟩
    ·rw [ha] at hc
     simp only [du,if_false] at hc
     repeat' first | refine st ?_ | (refine ca ?_;apply hc) | (refine br ?_ ?_<;>intro hb) | fail
     refine fq hO 2 [2,13,14,15] rfl ss ss ?_ ?_
     ·(simp only [go_sem, *];try rfl)
     simp only [ae,ao]
     refine HI.out (j+1) _ _ (by have:=Hlt.out;omega) ⟨Hlt.out, ?_, ?_, ?_, ?_, ?_, ?_⟩
     ·(simp only [go_sem, *];try rfl)
     ·rw [Hsu.out,ha];simp only [du,if_false,aP];(simp only [go_sem, *];try rfl)
     ·(simp only [go_sem, *];try rfl)
     ·(simp only [go_sem, *];try rfl)
     ·(simp only [go_sem, *];try rfl)
     ·rw [Hsu.out,ha];simp only [du,if_false,aP]
    ·rw [ha] at hc
     simp only [if_true] at hc
     repeat' first | refine st ?_ | (refine ca ?_;apply hc) | (refine br ?_ ?_<;>intro hb) | fail
     refine fq hO 2 [2,13,14,15] rfl ss ss ?_ ?_
     ·(simp only [go_sem, *];try rfl)
     simp only [ae,ao]
     refine HI.out (j+1) _ _ (by have:=Hlt.out;omega) ⟨Hlt.out, ?_, ?_, ?_, ?_, ?_, ?_⟩
     ·(simp only [go_sem, *];try rfl)
     ·rw [Hsu.out,ha];simp only [if_true,ab,ah,aj,dw];(simp only [go_sem, *];try rfl)
     ·(simp only [go_sem, *];try rfl)
     ·(simp only [go_sem, *];try rfl)
     ·(simp only [go_sem, *];try rfl)
     ·rw [Hsu.out,ha];simp only [if_true,ab,ah,aj,dw,co,aG,aL,hav]
   ·have h1:decide ((j:Int)<(L.length:Int))=false:=by simpa using hlt
    have htk:L.take j=L:=dW (by omega)
    have hh:=H.out
    rw [htk] at f2 ⊢
    generalize L.filter dU=F at hh f2 ⊢
    have hle:(F.map Ac.av).length=F.length:=by simp
    clear hlt hj hfl hLn htk HI H
    repeat' first | refine st ?_ | (refine br ?_ ?_<;>intro hb) | fail
    refine fR Tryz.results17 ?_
    exact hh
def iC (l:List (List Int)):List (List Int):=if l=[] then [[-1]] else l
def lg (l:List (List Int)) (c:Nat):List (List Int) × Int :=
 if c=59 then (if (iC l).length<16 then (iC l++[[-1]],0) else ([],3))
 else if c=58 then (if ((iC l).getLastD []).length<6 then ((iC l).dropLast++[(iC l).getLastD []++[-1]],0) else ([],3))
 else if 48≤c∧c≤57 then ((iC l).dropLast++[((iC l).getLastD []).dropLast++[min (max 0 (((iC l).getLastD []).getLastD 0) * 10+((c:Int) - 48)) 9999]],0)
 else ([],6)
structure Ps where
 st:Nat
 utf:List Nat
 pv:Nat
 fn:Nat
 pars:List (List Int)
 inter:List UInt8
 text:List UInt8
 bad:Bool
 deriving DecidableEq
def Ps.av (p:Ps):AV:=.agg [.int .i64 p.st,.sval false (p.utf.map By),.int .u8 p.pv,.int .u8 p.fn,.sval false (p.pars.map dA),.str p.inter,.str p.text,.bool p.bad]
def cY (n:Nat):Ps:=⟨n,[],0,0,[],[],[],false⟩
def qX (n:Nat):Ps:=⟨n,[],0,0,[],[],[],true⟩
def lQ (c:Nat):Ev:=⟨1,c,0,0,[],[],[]⟩
def xD (c:Nat):Ev:=⟨2,c,0,0,[],[],[]⟩
def uy (i:List UInt8) (b:Nat):Ev:=⟨3,0,0,b,[],i,[]⟩
def D9 (p:Ps) (b:Nat):Ev:=⟨4,0,p.pv,b,p.pars,p.inter,[]⟩
def ux (p:Ps):Ev:=⟨5,0,0,0,[],[],p.text⟩
def D8 (p:Ps):Ev:=⟨6,0,p.pv,p.fn,p.pars,p.inter,p.text⟩
def lm (p:Ps) (e:Ev):Ps × List Ev:=(cY 0,if p.bad then [] else [e])
def mJ (p:Ps) (b:Nat):Ps:=if p.bad∨p.inter.length=2 then qX p.st else { p with inter:=p.inter++[aN b] }
def vW (p:Ps) (b:Nat):Ps:=if (lg p.pars b).2≠0∨p.bad then qX p.st else { p with pars:=(lg p.pars b).1 }
def mV (p:Ps) (b:Nat):Ps × List Ev:=if p.st≤5 then lm p (D9 p b) else ({ p with st:=11,fn:=if p.bad then p.fn else b },[])
def BK (p:Ps) (b:Nat):Ps × List Ev :=
 if b=91 then (cY 3,[]) else if b=93 then (cY 6,[]) else if b=80 then (cY 8,[]) else if b=88∨b=94∨b=95 then (cY 13,[])
 else if b<48 then (mJ (cY 2) b,[]) else lm p (uy [] b)
def pT (p:Ps) (b:Nat):Ps × List Ev:=if b<48 then (mJ p b,[]) else lm p (uy p.inter b)
def lR (p:Ps) (b:Nat):Ps × List Ev :=
 if b<48 then (mJ (cY (p.st+2)) b,[]) else if b<60 then (vW (cY (p.st+1)) b,[]) else if b<64 then ({ cY (p.st+1) with pv:=b },[]) else mV p b
def jr (p:Ps) (b:Nat):Ps × List Ev :=
 if b<48 then (mJ { p with st:=p.st+1 } b,[]) else if b<60 then (vW p b,[]) else if b<64 then (qX p.st,[]) else mV p b
def kS (p:Ps) (b:Nat):Ps × List Ev:=if b<48 then (mJ p b,[]) else if b<64 then (qX p.st,[]) else mV p b
def eX (p:Ps) (b:Nat):Ps × List Ev :=
 match p.st with
 | 0=>(p,[lQ b])
 | 1=>BK p b
 | 2=>pT p b
 | 3 | 8=>lR p b
 | 4 | 9=>jr p b
 | 5 | 10=>kS p b
 | _=>(p,[])
def vZ (b:Nat):Ps × List Ev:=if b=24∨b=26 then (cY 0,[]) else if b=27 then (cY 1,[]) else if b<32 then (cY 0,[xD b]) else (cY 0,[])
def iZ (q:Ps × List Ev) (c:Nat):Ps × List Ev :=
 if c<32∨c=127 then ((vZ c).1,q.2++(vZ c).2) else if c<127∨159<c then (q.1,q.2++[lQ c]) else q
def jd (p:Ps) (b:Nat):Ps × List Ev:=(eh p.utf b).2.foldl iZ ({ cY 0 with utf:=(eh p.utf b).1 },[])
def fQ (n:Nat):Bool:=n==6||(n==11||n==13)
def i_ (n:Nat):Bool:=n==7||(n==12||n==14)
def jY (p:Ps) (b:Nat):Ps × List Ev :=
 if b=7∧p.st=6 then lm p (ux p) else if b<32∨b=127∨p.st=13∨p.bad then (p,[]) else if p.text.length=512 then (qX p.st,[]) else ({ p with text:=p.text++[aN b] },[])
def take1 (p:Ps) (b:Nat):Ps × List Ev :=
 if p.st=0∧(p.utf≠[]∨128≤b) then jd p b
 else if b=24∨b=26 then (cY 0,[])
 else if b=27 then (if fQ p.st then ({ p with st:=p.st+1 },[]) else (cY 1,[]))
 else if fQ p.st then jY p b
 else if 128≤b then jd (cY 0) b
 else if b<32 then (p,if p.st≤5 then [xD b] else [])
 else if b=127 then (p,[])
 else eX p b
def xF (p:Ps) (b:Nat):Ps × List Ev :=
 if b≠92 then take1 (cY 1) b else if p.st=7 then lm p (ux p) else if p.st=12 then lm p (D8 p) else (cY 0,[])
def fe (p:Ps) (b:Nat):Ps × List Ev:=if i_ p.st∧¬ (b=24∨b=26∨b=27) then xF p b else take1 p b
def dH (p:Ps) (s:List Nat):Ps × List Ev:=s.foldl (fun q b=>((fe q.1 b).1,q.2++(fe q.1 b).2)) (p,[])
structure gq (p:Ps):Prop where
 st:p.st≤14
 utf:fM p.utf=true
 byt:∀ x∈p.utf,x<256
 pv:p.pv<256
 fn:p.fn<256
 pars:ep p.pars=true
 inter:p.inter.length≤2
 text:p.text.length≤512
theorem qI {l:List (List Int)} (h:ep l=true):∃ pre q n,iC l=pre++[q++[n]]∧pre.length≤15∧q.length≤5∧(-1≤n∧n≤9999)∧(pre.any jJ=false)∧q.any nf=false:=by
 have hb:(iC l).any jJ=false∧(iC l).length≤16∧iC l≠[]:=by
  unfold iC
  split
  ·exact⟨by decide,by decide,by decide⟩
  ·next hn =>
   unfold ep at h
   simp only [aB,decide_eq_true_eq,ax] at h
   exact⟨h.2.2,h.1,hn⟩
 obtain⟨h1,h2,h3⟩:=hb
 have hsp:=wl h3
 generalize (iC l).dropLast=pre at hsp
 generalize (iC l).getLast h3=s at hsp
 rw [← hsp] at h1 h2
 simp only [gv,fo,gG,gh,cy,ab,ah,aj] at h1 h2
 have hs:=h1.2
 unfold jJ at hs
 simp only [cy,beq_eq_false_iff_ne,decide_eq_false_iff_not] at hs
 have hne:s≠[]:=by rintro rfl;exact hs.1 rfl
 have hsq:=wl hne
 generalize s.dropLast=q at hsq
 generalize s.getLast hne=n at hsq
 subst hsq
 simp only [gv,fo,gG,gh,cy,ab,ah,aj] at hs
 have hn:=hs.2.2.2
 unfold nf at hn
 simp only [cy,decide_eq_false_iff_not] at hn
 exact⟨pre,q,n,hsp.symm,by omega,by omega,⟨by omega,by omega⟩,h1.1,hs.2.2.1⟩
theorem lh {α:Type} (l:List α) (x d:α):(l++[x]).getLastD d=x:=by simp [List.getLastD_eq_getLast?]
theorem kO {l pre:List (List Int)}{q:List Int}{n:Int}{c:Nat} (h:iC l=pre++[q++[n]]):lg l c =
  if c=59 then (if pre.length<15 then (pre++[q++[n],[-1]],0) else ([],3))
  else if c=58 then (if q.length<5 then (pre++[q++[n,-1]],0) else ([],3))
  else if 48≤c∧c≤57 then (pre++[q++[min (max 0 n * 10+((c:Int) - 48)) 9999]],0)
  else ([],6):=by
 unfold lg
 rw [h,lh,lh,AF,AF]
 have e1:(pre.length+1<16)=(pre.length<15):=by rw [eq_iff_iff];omega
 have e2:(q.length+1<6)=(q.length<5):=by rw [eq_iff_iff];omega
 simp only [ab,ah,aj,dw,e1,e2,ai,al,ap]
theorem CQ {l:List (List Int)}{c:Nat} (h:ep l=true) (h0:(lg l c).2=0):ep (lg l c).1=true:=by
 obtain⟨pre,q,n,hl,h1,h2,h3,h4,h5⟩:=qI h
 rw [kO hl] at h0 ⊢
 have hb:jJ (q++[n])=false:=by
  unfold jJ
  simp only [cy,beq_eq_false_iff_ne,decide_eq_false_iff_not,gv,fo,gG,gh,ab,ah,aj]
  refine⟨by omega,by omega,h5, ?_⟩
  unfold nf
  simp only [cy,decide_eq_false_iff_not]
  omega
 split at h0
 ·next hc =>
  rw [if_pos hc]
  split at h0
  ·next hp =>
   rw [if_pos hp]
   unfold ep
   simp only [aB,decide_eq_true_eq,ax,gv,fo,gG,gh,ab,ah,aj,h4,hb,kZ]
   refine⟨by omega, ?_,by decide⟩
   rw [beq_eq_false_iff_ne]
   intro e
   have:=congrArg lz e
   simp at this
  ·cases h0
 ·next hc =>
  rw [if_neg hc]
  split at h0
  ·next hc =>
   rw [if_pos hc]
   split at h0
   ·next hp =>
    rw [if_pos hp]
    have hb2:jJ (q++[n,-1])=false:=by
     unfold jJ at hb ⊢
     simp only [cy,beq_eq_false_iff_ne,decide_eq_false_iff_not,gv,fo,gG,gh,ab,ah,aj] at hb ⊢
     exact⟨by omega,by omega,h5,hb.2.2.2,by decide⟩
    unfold ep
    simp only [aB,decide_eq_true_eq,ax,gv,fo,gG,gh,ab,ah,aj,h4,hb2,kZ]
    refine⟨by omega, ?_,trivial⟩
    rw [beq_eq_false_iff_ne]
    intro e
    have hp:pre=[]:=by
     have:=congrArg lz e
     simp at this
     exact this
    subst hp
    simp at e
    have:=congrArg lz e
    simp at this
   ·cases h0
  ·next hc =>
   rw [if_neg hc]
   split at h0
   ·next hc2 =>
    rw [if_pos hc2]
    have hv:0≤min (max 0 n * 10+((c:Int) - 48)) 9999∧min (max 0 n * 10+((c:Int) - 48)) 9999≤9999:=by omega
    generalize min (max 0 n * 10+((c:Int) - 48)) 9999=v at hv
    have hb2:jJ (q++[v])=false:=by
     unfold jJ at hb ⊢
     simp only [cy,beq_eq_false_iff_ne,decide_eq_false_iff_not,gv,fo,gG,gh,ab,ah,aj] at hb ⊢
     refine⟨by omega,by omega,h5, ?_⟩
     unfold nf
     simp only [cy,decide_eq_false_iff_not]
     omega
    unfold ep
    simp only [aB,decide_eq_true_eq,ax,gv,fo,gG,gh,ab,ah,aj,h4,hb2,kZ]
    refine⟨by omega, ?_,trivial⟩
    rw [beq_eq_false_iff_ne]
    intro e
    have hp:pre=[]:=by
     have:=congrArg lz e
     simp at this
     exact this
    subst hp
    simp at e
    have hq:q=[]:=by
     have:=congrArg lz e
     simp at this
     exact this
    subst hq
    simp at e
    omega
   ·cases h0
theorem gq.beg {n:Nat} (h:n≤14):gq (cY n):=⟨h,rfl,by simp [cY],gg _,gg _,rfl,bI _,bI _⟩
theorem gq.spo {n:Nat} (h:n≤14):gq (qX n):=⟨h,rfl,by simp [qX],gg _,gg _,rfl,bI _,bI _⟩
theorem gq.at {p:Ps} (h:gq p){n:Nat} (hn:n≤14):gq { p with st:=n }:=⟨hn,h.utf,h.byt,h.pv,h.fn,h.pars,h.inter,h.text⟩
theorem gq.sign {p:Ps} (h:gq p) (b:Nat):gq (mJ p b):=by
 unfold mJ
 split
 ·exact .spo h.st
 ·next hc =>
  refine⟨h.st,h.utf,h.byt,h.pv,h.fn,h.pars, ?_,h.text⟩
  have:=h.inter
  simp only [ab,ah,aj]
  rw [not_or] at hc
  omega
theorem gq.dig {p:Ps} (h:gq p) (b:Nat):gq (vW p b):=by
 unfold vW
 split
 ·exact .spo h.st
 ·next hc =>
  rw [not_or] at hc
  exact⟨h.st,h.utf,h.byt,h.pv,h.fn,CQ h.pars (Classical.not_not.1 hc.1),h.inter,h.text⟩
theorem gq.disp (p:Ps) (e:Ev):gq (lm p e).1:=.beg (by decide)
theorem gq.last {p:Ps} (h:gq p){b:Nat} (hb:b<256):gq (mV p b).1:=by
 unfold mV
 split
 ·exact .disp _ _
 ·refine⟨(by decide:11≤14),h.utf,h.byt,h.pv, ?_,h.pars,h.inter,h.text⟩
  have:=h.fn
  simp only
  split<;>assumption
theorem gq.goes {p:Ps} (h:gq p){b:Nat} (hb:b<256):gq (eX p b).1:=by
 have key:∀ n,n≤14→gq (mJ (cY n) b):=fun n hn=>(gq.beg hn).sign b
 have hs:=h.st
 unfold eX
 split
 ·exact h
 ·unfold BK
  repeat' split
  all_goals first | exact .beg (by decide) | exact key 2 (by decide)
 ·unfold pT
  split
  ·exact h.sign b
  ·exact .disp _ _
 ·next e =>
  unfold lR
  repeat' split
  ·exact key _ (by omega)
  ·exact(gq.beg (by omega)).dig b
  ·exact⟨by simp only [cY];omega,rfl,by simp [cY],hb,gg _,rfl,bI _,bI _⟩
  ·exact h.last hb
 ·next e =>
  unfold lR
  repeat' split
  ·exact key _ (by omega)
  ·exact(gq.beg (by omega)).dig b
  ·exact⟨by simp only [cY];omega,rfl,by simp [cY],hb,gg _,rfl,bI _,bI _⟩
  ·exact h.last hb
 ·next e =>
  unfold jr
  repeat' split
  ·exact(h.at (by omega)).sign b
  ·exact h.dig b
  ·exact .spo hs
  ·exact h.last hb
 ·next e =>
  unfold jr
  repeat' split
  ·exact(h.at (by omega)).sign b
  ·exact h.dig b
  ·exact .spo hs
  ·exact h.last hb
 ·unfold kS
  repeat' split
  ·exact h.sign b
  ·exact .spo hs
  ·exact h.last hb
 ·unfold kS
  repeat' split
  ·exact h.sign b
  ·exact .spo hs
  ·exact h.last hb
 ·exact h
theorem gq.ctl (b:Nat):gq (vZ b).1:=by
 unfold vZ
 repeat' split
 all_goals exact .beg (by decide)
theorem gq.code {q:Ps × List Ev} (h:gq q.1) (c:Nat):gq (iZ q c).1:=by
 unfold iZ
 split
 ·exact .ctl c
 ·split<;>exact h
theorem gq.codes:∀ {l:List Nat}{q:Ps × List Ev},gq q.1→gq (l.foldl iZ q).1
 | [],_,h=>h
 | c::l,_,h=>gq.codes (l:=l) (h.code c)
theorem gq.print {p:Ps} (h:gq p){b:Nat} (hb:b<256):gq (jd p b).1:=by
 unfold jd
 refine gq.codes ⟨bI _,qy _ _,rQ h.byt hb,gg _,gg _,rfl,bI _,bI _⟩
theorem gq.within {p:Ps} (h:gq p) (b:Nat):gq (jY p b).1:=by
 unfold jY
 split
 ·exact .disp _ _
 ·split
  ·exact h
  ·split
   ·exact .spo h.st
   ·next hc =>
    refine⟨h.st,h.utf,h.byt,h.pv,h.fn,h.pars,h.inter, ?_⟩
    have:=h.text
    simp only [ab,ah,aj]
    omega
theorem gq.take1 {p:Ps} (h:gq p){b:Nat} (hb:b<256):gq (take1 p b).1:=by
 have hs:=h.st
 unfold Go.Proofs.YthdbijpefkapnaaGreatDoor.take1
 split
 ·exact h.print hb
 ·split
  ·exact .beg (by decide)
  ·split
   ·split
    ·next ht =>
     have:p.st≠14:=by
      intro e
      rw [e] at ht
      exact absurd ht (by decide)
     exact h.at (by omega)
    ·exact .beg (by decide)
   ·split
    ·exact h.within b
    ·split
     ·exact(gq.beg (by decide)).print hb
     ·split
      ·exact h
      ·split
       ·exact h
       ·exact h.goes hb
theorem gq.take {p:Ps} (h:gq p){b:Nat} (hb:b<256):gq (fe p b).1:=by
 unfold fe
 split
 ·unfold xF
  repeat' split
  ·exact(gq.beg (by decide)).take1 hb
  ·exact .disp _ _
  ·exact .disp _ _
  ·exact .beg (by decide)
 ·exact h.take1 hb
def dV (p:Ps) (b g:Nat):aH:=.cells [.int .i64 p.st,.sval false (p.utf.map By),.int .u8 p.pv,.int .u8 p.fn,.sval false (p.pars.map dA),.str p.inter,.str p.text,.bool p.bad,.sown b g g]
def dZ (l:List Ev):aH:=.arr 40 7 0 l.length (l.map Ev.av)
def aY (X:List aH) (p:Ps) (l:List Ev):List aH:=X++[dV p (X.length+1) l.length,dZ l]
@[go_sem] theorem Ev.ltL (l:List Ev) (n:Nat):ltL n (l.map Ev.av)=true:=dC.2 fun x hx=>by
 obtain⟨y,_,rfl⟩:=aX.1 hx
 simp only [Ev.av,AV.lt,Go.Fen.ltL,dA.ltL,Bool.and_self]
@[go_sem] theorem Ev.ok (l:List Ev):dz 7 (l.map Ev.av)=true:=by
 unfold dz;rw [aF];intro x hx;obtain⟨y,_,rfl⟩:=aX.1 hx;rfl
theorem Kh (X:List aH) (p:Ps) (g:Nat):(dV p (X.length+1) g).ltB (X.length+2)=true:=by
 simp [dV,aH.ltB,Go.Fen.ltL,AV.lt,By.ltL,dA.ltL]
theorem zd (l:List Ev) (n:Nat):(dZ l).ltB n=true:=by
 simp [dZ,aH.ltB,Ev.ltL]
theorem DF (X:List aH) (p:Ps) (l:List Ev):(aY X p l).length=X.length+2:=by simp [aY]
theorem iy {X:List aH}{p q:Ps}{l k:List Ev} (h:bP (aY X p l)):bP (aY X q k):=nA h (Kh X q _) (zd k _)
section
variable {P:Program}{w0:World}{F:Func}{S0 S X L:List aH}{R:ed→List aH→Prop}{ms vs:List AV}{env:dK}{B C:aH}
theorem vT (h0:env DS=.dfr ms) (h01:fw ms S=some (X++B::C::L)) (h1:gW P env (X++B::C::L) F.results.toList=some []) (hl:X.length+2=S0.length) (hB:bP (X++[B,C])) (h:R (.ret (.tup [])) (X++[B,C])):kX P F S0 R .ret env S:=by
 have e:X++B::C::L=(X++[B,C])++L:=by simp
 rw [e] at h01 h1
 exact D6 h0 h01 (by simp;omega) hB h1 rfl rfl h
theorem zb (h0:env DS=.dfr ms) (h01:fw ms S=some (X++B::C::L)) (h1:gW P env (X++B::C::L) F.results.toList=some []) (hl:X.length+2=S0.length) (hB:bP (X++[B,C])) (h:R (.ret (.tup [])) (X++[B,C])):kX P F S0 R .normal env S :=
 vT h0 h01 h1 hl hB h
end
theorem rG {P:Program}{w0:World}{n0 N:Nat}{r:Option Nat}{Q:cR}{k:List TI}{env:dK}{S X:List aH}{it:KI}{B C:aH}{cs:List AV}{ty:Option TypeId} (t:Nat) (sl:List Nat) (hS:S=X++[B,C,.cells cs ty]) (hO:bP (X++[B,C])) (hn:n0=X.length+2) (ht:env t=.own (X.length+2) 0)
  (hds:(env DS).lt (X.length+2)=true) (hsl:(sl.all fun u=>(eO env t (.pro cs) u).lt (X.length+2))=true) (h:ba P w0 n0 N r (.it it::k) Q .normal (iV sl (eO env t (.pro cs))) (X++[B,C])):ba P w0 n0 N r (.it it::k) Q .normal env S:=by
 have hl:(X++[B,C]).length=X.length+2:=by simp
 have hS':S=(X++[B,C])++[.cells cs ty]:=by rw [hS];simp
 refine HY (X++[B,C]) sl hS' hO (hn.trans hl.symm) (by rw [hl];exact ht) (by rw [hl];exact hds) (by rw [hl];exact hsl) h
section
variable {P:Program}{F:Func}{S0 S X L:List aH}{R:ed→List aH→Prop}{ms:List AV}{env:dK}{p q:Ps}{l k:List Ev}
theorem oB (hO:bP (aY X p l)) (h:R (.ret (.tup [])) (aY X q k)) (hl:X.length+2=S0.length) (h0:env DS=.dfr ms) (h01:fw ms S=some (X++dV q (X.length+1) k.length::dZ k::L)) (h1:gW P env (X++dV q (X.length+1) k.length::dZ k::L) F.results.toList=some []):kX P F S0 R .ret env S :=
 vT h0 h01 h1 hl (iy hO) h
theorem cJ (hO:bP (aY X p l)) (h:R (.ret (.tup [])) (aY X q k)) (hl:X.length+2=S0.length) (h0:env DS=.dfr ms) (h01:fw ms S=some (X++dV q (X.length+1) k.length::dZ k::L)) (h1:gW P env (X++dV q (X.length+1) k.length::dZ k::L) F.results.toList=some []):kX P F S0 R .normal env S :=
 oB hO h hl h0 h01 h1
end
theorem wO {X:List aH}{cs:List AV}{ty:Option TypeId}{E:aH}{p:Ps}{l:List Ev} (h1:aH.cells (cs.map softV) ty=dV p (X.length+1) l.length) (h2:E=dZ l){R:ed→List aH→Prop}{o:ed} (h:R o (aY X p l)) :
  ∃ cs' ty',(X++[aH.cells cs ty,E])[X.length]? = some (.cells cs' ty')∧R o ((X++[aH.cells cs ty,E]).set X.length (.cells (cs'.map softV) ty')):=by
 subst h2
 refine⟨cs,ty,by simp, ?_⟩
 rw [ef _ _ (bg _),Nat.sub_self,List.set_cons_zero,h1]
 exact h
theorem gR (w0:World) (X:List aH) (p:Ps) (l:List Ev) (n:Nat) (R:Rt) (h:R (.ret (.tup [])) (aY X (cY n) l)):az Tryz.prog w0 167 [.own X.length 0,.int .i64 n] (aY X p l) R:=by
 refine az.softC X.length ?_
 have H:=au h
 clear h
 refine eN Tryz.func167 rfl Tryz.ntmps167 fun hO=>?_
 have HO:=au hO
 clear hO
 unfold aY dV
 repeat' first | refine st ?_ | (refine br ?_ ?_<;>intro hb) | fail
 refine GQ Tryz.results167 ?_ ?_ ?_
 ·exact nA HO.out (by simp [aH.ltB,Go.Fen.ltL,AV.lt]) (zd _ _)
 ·simp [aY]
 ·exact wO rfl rfl H.out
theorem rX (w0:World) (X:List aH) (p:Ps) (l:List Ev) (R:Rt) (h:R (.ret (.tup [])) (aY X (qX p.st) l)):az Tryz.prog w0 215 [.own X.length 0] (aY X p l) R:=by
 refine az.softC X.length ?_
 have H:=au h
 clear h
 refine eN Tryz.func215 rfl Tryz.ntmps215 fun hO=>?_
 have HO:=au hO
 clear hO
 unfold aY dV
 repeat' first | refine st ?_ | (refine br ?_ ?_<;>intro hb) | fail
 refine GQ Tryz.results215 ?_ ?_ ?_
 ·exact nA HO.out (by simp [aH.ltB,Go.Fen.ltL,AV.lt]) (zd _ _)
 ·simp [aY]
 ·exact wO rfl rfl H.out
theorem zZ (w0:World) (X:List aH) (p:Ps) (l:List Ev) (e:Ev) (hl:l.length≤1000000) (R:Rt) (h:R (.ret (.tup [])) (aY X p (l++[e]))):az Tryz.prog w0 170 [.own X.length 0,e.av] (aY X p l) R:=by
 have H:=au h
 clear h
 have hb:(l.length+1) * 80≤140737488355328:=by omega
 rw [show e.av=.agg [.int .i64 e.kind,.int .i64 e.code,.int .u8 e.priv,.int .u8 e.fin,.sval false (e.pars.map dA),.str e.inter,.str e.text] from rfl]
 refine eN Tryz.func170 rfl Tryz.ntmps170 fun hO=>?_
 have HO:=au hO
 clear hO hl
 unfold aY dV dZ
 repeat' first | refine st ?_ | (refine br ?_ ?_<;>intro hb) | refine sd ?_ | refine sx ?_ | apply aE | (apply aO;(· decide +kernel)) | refine bd ?_ ?_ | fail
 apply zb
 ·(simp only [go_sem, *];try rfl)
 ·(simp only [go_sem, *];try rfl)
 ·(simp only [go_sem, *,Tryz.results170];try rfl)
 ·simp
 ·exact nA HO.out (by simp [aH.ltB,Go.Fen.ltL,AV.lt,By.ltL,dA.ltL]) (by rw [Aj,so,Ev.ltL];simp [Go.Fen.ltL,AV.lt,dA.ltL])
 ·have H1:=H.out
  simp only [aY,dV,dZ,ab,ah,aj,co,aG,aL,dw] at H1
  exact H1
theorem uA (p:Ps) (e:Ev):(lm p e).2.length≤1:=by
 unfold lm
 split<;>simp
theorem tZ (w0:World) (X:List aH) (p:Ps) (l:List Ev) (e:Ev) (hl:l.length≤1000000) (R:Rt) (h:R (.ret (.tup [])) (aY X (lm p e).1 (l++(lm p e).2))):az Tryz.prog w0 214 [.own X.length 0,e.av] (aY X p l) R:=by
 have htell:=zZ w0 X p l e hl
 have hbeg:=fun l=>gR w0 X p l 0
 have hbe2:=gR w0 X p (l++[e]) 0
 unfold lm at h
 rw [show e.av=.agg [.int .i64 e.kind,.int .i64 e.code,.int .u8 e.priv,.int .u8 e.fin,.sval false (e.pars.map dA),.str e.inter,.str e.text] from rfl] at htell ⊢
 have H:=au h
 clear h hl
 refine eN Tryz.func214 rfl Tryz.ntmps214 fun hO=>?_
 have HO:=au hO
 clear hO
 repeat' ((fail_if_success (apply dE 4 rfl));first | refine st ?_ | (refine br ?_ ?_<;>intro hb) | fail)
 refine HY (aY X p l) (t:=3) [0,3] rfl HO.out rfl ss ss ?_ ?_
 ·simp only [go_sem, *,DF]
 unfold aY dV dZ
 cases hb:p.bad
 ·have hb2:=hbe2
  simp only [aY,dV,dZ,hb] at htell hb2
  clear hbeg hbe2
  repeat' first | refine st ?_ | (refine ca ?_;first | apply htell | apply hb2) | (refine br ?_ ?_<;>intro hb) | fail
  apply zb (L:=[])
  ·(simp only [go_sem, *];try rfl)
  ·(simp only [go_sem, *];try rfl)
  ·(simp only [go_sem, *,Tryz.results214];try rfl)
  ·simp
  ·exact iy (q:=cY 0) (k:=l++[e]) HO.out
  ·have H1:=H.out
   rw [hb] at H1
   exact H1
 ·have hb2:=hbeg l
  simp only [aY,dV,dZ,hb] at hb2
  clear hbeg hbe2 htell
  repeat' first | refine st ?_ | (refine ca ?_;apply hb2) | (refine br ?_ ?_<;>intro hb) | fail
  apply zb (L:=[])
  ·(simp only [go_sem, *];try rfl)
  ·(simp only [go_sem, *];try rfl)
  ·(simp only [go_sem, *,Tryz.results214];try rfl)
  ·simp
  ·exact iy (q:=cY 0) (k:=l) HO.out
  ·have H1:=H.out
   rw [hb] at H1
   simp only [if_true,aP] at H1
   exact H1
theorem wT (w0:World) (X:List aH) (p:Ps) (l:List Ev) (b:Nat) (hi:p.inter.length≤2) (R:Rt) (h:R (.ret (.tup [])) (aY X (mJ p b) l)):az Tryz.prog w0 260 [.own X.length 0,.int .u8 b] (aY X p l) R:=by
 have hsp:=rX w0 X p l
 by_cases hc:p.bad∨p.inter.length=2
 ·unfold mJ at h
  rw [if_pos hc] at h
  have H:=au h
  clear h
  refine eN Tryz.func260 rfl Tryz.ntmps260 fun hO=>?_
  have HO:=au hO
  clear hO
  unfold aY dV dZ
  cases hb:p.bad
  ·have h2:((p.inter.length:Int)==2)=true:=by
    rcases hc with hc | hc
    ·rw [hb] at hc;cases hc
    ·rw [hc];rfl
   simp only [aY,dV,dZ,hb] at hsp
   clear hc hi
   repeat' first | refine st ?_ | (refine ca ?_;apply hsp) | (refine br ?_ ?_<;>intro hb) | fail
   apply vT (L:=[])
   ·(simp only [go_sem, *];try rfl)
   ·(simp only [go_sem, *];try rfl)
   ·(simp only [go_sem, *,Tryz.results260];try rfl)
   ·simp
   ·exact iy (q:=qX p.st) HO.out
   ·exact H.out
  ·simp only [aY,dV,dZ,hb] at hsp
   clear hc hi
   repeat' first | refine st ?_ | (refine ca ?_;apply hsp) | (refine br ?_ ?_<;>intro hb) | fail
   apply vT (L:=[])
   ·(simp only [go_sem, *];try rfl)
   ·(simp only [go_sem, *];try rfl)
   ·(simp only [go_sem, *,Tryz.results260];try rfl)
   ·simp
   ·exact iy (q:=qX p.st) HO.out
   ·exact H.out
 ·unfold mJ at h
  rw [if_neg hc] at h
  rw [not_or] at hc
  have hb:p.bad=false:=by simpa using hc.1
  have h2:((p.inter.length:Int)==2)=false:=by rw [beq_eq_false_iff_ne];omega
  have h3:p.inter.length+1≤9223372036854775807:=by omega
  have H:=au h
  clear h hc hi hsp
  refine eN Tryz.func260 rfl Tryz.ntmps260 fun hO=>?_
  have HO:=au hO
  clear hO
  unfold aY dV dZ
  rw [hb]
  repeat' first | refine st ?_ | (refine br ?_ ?_<;>intro hb) | refine sd ?_ | refine sx ?_ | apply aE | (apply aO;(· decide +kernel)) | refine bd ?_ ?_ | fail
  (apply cJ HO.out H.out;(· simp);(· (simp only [go_sem, *];try rfl));(· (simp only [go_sem, *];try rfl));(· (simp only [go_sem, *,Tryz.results260];try rfl)))
theorem DN (p:Ps) (b:Nat):(mV p b).2.length≤1:=by
 unfold mV
 split
 ·exact uA _ _
 ·simp
theorem C5 (w0:World) (X:List aH) (p:Ps) (l:List Ev) (b:Nat) (hl:l.length≤1000000) (hs:p.st≤14) (R:Rt) (h:R (.ret (.tup [])) (aY X (mV p b).1 (l++(mV p b).2))):az Tryz.prog w0 262 [.own X.length 0,.int .u8 b] (aY X p l) R:=by
 have hd:=tZ w0 X p l (D9 p b) hl
 unfold mV at h
 by_cases h5:p.st≤5
 ·rw [if_pos h5] at h
  have d5:decide ((p.st:Int)≤5)=true:=by simp;omega
  have hav:(D9 p b).av=.agg [.int .i64 4,.int .i64 0,.int .u8 p.pv,.int .u8 b,.sval false (p.pars.map dA),.str p.inter,.str []]:=rfl
  rw [hav] at hd
  have H:=au h
  clear h h5 hl
  refine eN Tryz.func262 rfl Tryz.ntmps262 fun hO=>?_
  have HO:=au hO
  clear hO
  unfold aY dV dZ
  repeat' ((fail_if_success (apply dE 9 rfl));first | refine st ?_ | (refine br ?_ ?_<;>intro hb) | fail)
  refine rG 4 [0,1,4] rfl HO.out (by simp) ss ss ss ?_
  simp only [aY,dV,dZ] at hd
  repeat' first | refine st ?_ | (refine ca ?_;apply hd) | (refine br ?_ ?_<;>intro hb) | fail
  (apply oB HO.out H.out;(· simp);(· (simp only [go_sem, *];try rfl));(· (simp only [go_sem, *];try rfl));(· (simp only [go_sem, *,Tryz.results262];try rfl)))
 ·rw [if_neg h5] at h
  have d5:decide ((p.st:Int)≤5)=false:=by simp;omega
  rw [aP] at h
  clear h5 hl hd
  cases hb:p.bad
  all_goals
   rw [hb] at h
   have H:=au h
   clear h
   refine eN Tryz.func262 rfl Tryz.ntmps262 fun hO=>?_
   have HO:=au hO
   clear hO
   unfold aY dV dZ
   rw [hb]
   repeat' ((fail_if_success (apply dE 9 rfl));first | refine st ?_ | (refine br ?_ ?_<;>intro hb) | fail)
   refine rG 4 [0,1,4] rfl (by first | exact iy (q:={ p with bad:=false }) (k:=l) HO.out | exact iy (q:={ p with bad:=true }) (k:=l) HO.out) (by simp) ss ss ss ?_
   repeat' first | refine st ?_ | (refine br ?_ ?_<;>intro hb) | fail
   (apply cJ HO.out H.out;(· simp);(· (simp only [go_sem, *];try rfl));(· (simp only [go_sem, *];try rfl));(· (simp only [go_sem, *,Tryz.results262];try rfl)))
end Go.Proofs.YthdbijpefkapnaaGreatDoor
