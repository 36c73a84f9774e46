/- YthdbijpefkapnaaGreatDoorWalk0. Texts of the proof of a law about texts: a layer of abstract values above the worlds, the types, the walks of the functions that the law reaches, the law and its card. Own work of an AI agent. -/
import Derived.Test.YthdbijpefkapnaaGreatDoorCore2
import Derived.Test.YthdbijpefkapnaaGreatDoorCore1
import Derived.Test.YthdbijpefkapnaaGreatDoorTy
import Derived.Shelf.LaysM
import Derived.Shelf.Strconv.Itoa3
import Derived.Shelf.Abstract
import Derived.Lib.ItoaLen
import Derived.Lib.AppendIntMem
import Derived.Test.YthdbijpefkapnaaGreatDoorShelf
import Derived.Lib.ItoaMem
set_option linter.all false
set_option maxHeartbeats 40000000
open And renaming intro → dw
open BitVec renaming ofInt → ai, toNat_and → Au, toNat_ofInt → bL, toNat_or → Cn
open Bool renaming and_eq_false_iff → fj, and_eq_true → aj, eq_iff_iff → dX, false_or → uq, not_eq_false' → aG, not_eq_true' → az, or_eq_true → ef, true_eq_false → i8
open Function renaming comp_def → aN
open Go.IntKind renaming bits → a6, i64 → af, u8 → aW
open Go.IntWalk renaming i64_in → au, u8_in → en
open Go.Lib renaming hid → ae, itoa → fJ
open Int renaming fdiv_eq_ediv_of_nonneg → vJ, le_refl → wA
open List renaming all_eq_true → aq, all_map → be, append_assoc → aK, append_nil → aE, cons_append → cz, dropWhile_cons_of_neg → qN, dropWhile_cons_of_pos → qM, flatMap_cons → kW, foldl_append → CJ, foldl_cons → ee, getElem?_append_left → ap, getElem?_append_right → aw, getElem?_eq_getElem → al, getElem?_eq_some_iff → ab, getElem?_map → aF, getElem?_set_ne → bl, length → dM, length_append → ah, length_cons → aI, length_eq_one_iff → uu, length_eq_zero_iff → mM, length_map → aY, length_nil → aU, length_replicate → x8, length_take_le → Ap, map → bE, map_append → bg, map_cons → aA, map_map → Ag, map_nil → aC, mem_append → bv, mem_cons → bA, mem_cons_of_mem → fa, mem_map → aH, mem_of_getElem? → ar, mem_singleton → aZ, nil_append → cU, replicate → bp, replicate_succ → gk, reverse_append → xT, reverse_replicate → ut, reverse_reverse → ww, set_append_right → cZ, take → lm, take_add_one → eP, take_length → bk, take_of_length_le → cA, take_zero → co, toList_toArray → bt
open Nat renaming add_sub_cancel_left → x6, and_two_pow_sub_one_eq_mod → vH, le_refl → aP, le_succ_of_le → Ao, mod_eq_of_lt → iG, mod_lt → gj, pow_le_pow_right → dL, zero_le → bx
open Option renaming toList_some → iK
open UInt8 renaming ofNat → aD, toNat → aR
namespace Go.Proofs.YthdbijpefkapnaaGreatDoor
open Go Go.Fen
abbrev Rt:=df→List ax→Prop
attribute [local irreducible] aX WP ao er nF dt bK fD
set_option maxRecDepth 8000
def iJ (b:UInt8):AV:=.int .u8 (b.toNat:Int)
theorem t7 (l:List UInt8):fh (l.map iJ)=some l:=by
 induction l with
 | nil=>rfl
 | cons x l ih=>simp [fh,iJ,ih]
theorem tj (l:List UInt8):rx (l.map iJ)=true:=by
 unfold rx
 rw [aq]
 intro x hx
 obtain⟨b,_,rfl⟩:=aH.1 hx
 have:=b.toNat_lt
 simp [iJ];omega
@[go_sem] theorem Gr (l:List UInt8):cC 1 (l.map iJ)=true:=by
 unfold cC;rw [aq];intro x hx;obtain⟨y,_,rfl⟩:=aH.1 hx;rfl
@[go_sem] theorem Ea (l:List UInt8):plainL (l.map iJ)=true:=ej (fun _=>rfl) l
@[go_sem] theorem se (l:List UInt8) (n:Nat):ltL n (l.map iJ)=true:=cw.2 fun x hx=>by obtain⟨y,_,rfl⟩:=aH.1 hx;rfl
def cT (n:Nat):UInt8:=if n<10 then aD (48+n) else aD (87+n)
def gV (b:UInt8):Option Nat :=
 if 48≤b.toNat∧b.toNat≤57 then some (b.toNat - 48)
 else if 97≤b.toNat∧b.toNat≤102 then some (b.toNat - 87)
 else if 65≤b.toNat∧b.toNat≤70 then some (b.toNat - 55) else none
def ia (a b:UInt8):Option Nat :=
 match gV a,gV b with
 | some x,some y=>some (x * 16+y)
 | _,_=>none
theorem oY {a:UInt8}{x:Nat} (h:gV a=some x):x<16:=by
 unfold gV at h
 split at h
 ·cases h;omega
 ·split at h
  ·cases h;omega
  ·split at h
   ·cases h;omega
   ·cases h
theorem n6 {a b:UInt8}{v:Nat} (h:ia a b=some v):v<256:=by
 unfold ia at h
 split at h
 ·next x y hx hy =>
  cases h
  have:=oY hx
  have:=oY hy
  omega
 ·cases h
def ir (b:Nat):Nat:=if b<128 then 1 else if b<194 then 0 else if b<224 then 2 else if b<240 then 3 else if b<245 then 4 else 0
def Bx (b:Nat):Nat:=if b=224 then 160 else if b=240 then 144 else 128
def BI (b:Nat):Nat:=if b=237 then 159 else if b=244 then 143 else 191
def jY:Nat→Nat→List Nat→Bool
 | _,_,[]=>true
 | lo,hi,b::r=>decide (lo≤b)&&(decide (b≤hi)&&jY 128 191 r)
def eM:List Nat→Nat
 | []=>0
 | b::r=>if ir b<r.length+1 then 0 else if jY (Bx b) (BI b) r then (if r.length+1<ir b then 1 else 2) else 0
def iY:List Nat→Nat
 | []=>0
 | b::r=>r.foldl (fun c x=>c * 64+x % 64) (if r=[] then b else b % 2 ^ (7 - (r.length+1)))
def kG (b:Nat):Nat × Nat:=if b<128 then (1,b) else if b<192 then (0,0) else if b<224 then (2,b - 192) else if b<240 then (3,b - 224) else if b<248 then (4,b - 240) else (0,0)
theorem nw (a:Nat) :
  (a<128∧kG a=(1,a)∧ir a=1)∨((128≤a∧a<192∨248≤a)∧kG a=(0,0)∧ir a=0)∨(192≤a∧a<194∧kG a=(2,a - 192)∧ir a=0) ∨
  (194≤a∧a<224∧kG a=(2,a - 192)∧ir a=2)∨(224≤a∧a<240∧kG a=(3,a - 224)∧ir a=3)∨(240≤a∧a<245∧kG a=(4,a - 240)∧ir a=4)∨(245≤a∧a<248∧kG a=(4,a - 240)∧ir a=0):=by
 unfold kG ir
 repeat' split
 all_goals simp
 all_goals omega
theorem tV {lo hi:Nat}{l:List Nat} (h:jY lo hi l=true) (h1:128≤lo) (h2:hi≤191):∀ x∈l,128≤x∧x≤191:=by
 induction l generalizing lo hi with
 | nil=>intro x hx;cases hx
 | cons b r ih =>
  simp only [jY,aj,decide_eq_true_eq] at h
  intro x hx
  rcases bA.1 hx with rfl | hx
  ·omega
  ·exact ih h.2.2 (aP _) (aP _) x hx
theorem zi (a:Nat):128≤Bx a:=by
 unfold Bx
 repeat' split
 all_goals omega
theorem zm (a:Nat):BI a≤191:=by
 unfold BI
 repeat' split
 all_goals omega
theorem zk {a:Nat}{r:List Nat} (h:eM (a::r)=2):ir a=r.length+1∧∀ x∈r,128≤x∧x≤191:=by
 rw [eM] at h
 split at h
 ·cases h
 ·split at h
  ·next hc =>
   split at h
   ·cases h
   ·exact⟨by omega,tV hc (zi a) (zm a)⟩
  ·cases h
def fm (p:List Nat):Bool:=decide (p=[])||decide (eM p=1)
def hU (b:Nat):List Nat × List Nat:=if eM [b]=2 then ([],[iY [b]]) else if eM [b]=1 then ([b],[]) else ([],[65533])
def dj (p:List Nat) (b:Nat):List Nat × List Nat :=
 if eM (p++[b])=2 then ([],[iY (p++[b])]) else if eM (p++[b])=1 then (p++[b],[]) else if p=[] then ([],[65533]) else ((hU b).1,65533::(hU b).2)
def jc (p:List Nat):List Nat:=if p=[] then [] else [65533]
def kL:List Nat→List Nat→List Nat
 | p,[]=>jc p
 | p,b::s=>(dj p b).2++kL (dj p b).1 s
def zR (s:List Nat):List Nat:=kL [] s
theorem wV:fm []=true:=rfl
theorem sJ (b:Nat):fm (hU b).1=true:=by
 unfold hU
 split
 ·rfl
 ·split
  ·next h=>simp [fm,h]
  ·rfl
theorem nj (p:List Nat) (b:Nat):fm (dj p b).1=true:=by
 unfold dj
 split
 ·rfl
 ·split
  ·next h=>simp [fm,h]
  ·split
   ·rfl
   ·exact sJ b
theorem E4 {a:Nat}{r:List Nat} (h:eM (a::r)=1):r.length+1<ir a∧ir a≤4∧∀ x∈r,128≤x∧x≤191:=by
 have h4:ir a≤4:=by
  unfold ir
  repeat' split
  all_goals omega
 rw [eM] at h
 split at h
 ·cases h
 ·split at h
  ·next hc =>
   split at h
   ·next h2=>exact⟨h2,h4,tV hc (zi a) (zm a)⟩
   ·cases h
  ·cases h
theorem qa {p:List Nat} (h:fm p=true):p.length≤3:=by
 cases p with
 | nil=>simp
 | cons a r =>
  simp only [fm,ef,decide_eq_true_eq] at h
  rcases h with h | h
  ·cases h
  ·obtain⟨h1,h2,_⟩:=E4 h
   simp;omega
def Bd (cp:Nat):Bool:=decide (cp≤1114111)&&!(decide (55296≤cp)&&decide (cp≤57343))
def mf (cp:Nat):List Nat :=
 if cp<128 then [cp] else if cp<2048 then [192+cp / 64,128+cp % 64] else if cp<65536 then [224+cp / 4096,128+cp / 64 % 64,128+cp % 64] else [240+cp / 262144,128+cp / 4096 % 64,128+cp / 64 % 64,128+cp % 64]
def rh (cp:Nat):List Nat:=mf (if Bd cp then cp else 65533)
def Cw (l:List Nat):List Nat:=l.flatMap rh
theorem qc (cp:Nat) (h:cp≤1114111):∀ x∈mf cp,x<256:=by
 unfold mf
 intro x hx
 repeat' split at hx
 all_goals (simp at hx;omega)
theorem wZ (cp:Nat):∀ x∈rh cp,x<256:=by
 unfold rh
 split
 ·next h=>exact qc cp (by simp [Bd] at h;omega)
 ·exact qc _ (by omega)
def By (x:Nat):AV:=.int .u8 x
def Co (x:Nat):AV:=.int .i64 x
@[go_sem] theorem By.plainL (l:List Nat):plainL (l.map By)=true:=ej (fun _=>rfl) l
@[go_sem] theorem By.ltL (l:List Nat) (n:Nat):ltL n (l.map By)=true:=cw.2 fun x hx=>by obtain⟨y,_,rfl⟩:=aH.1 hx;rfl
@[go_sem] theorem By.ok (l:List Nat):cC 1 (l.map By)=true:=by
 unfold cC;rw [aq];intro x hx;obtain⟨y,_,rfl⟩:=aH.1 hx;rfl
@[go_sem] theorem Co.plainL (l:List Nat):plainL (l.map Co)=true:=ej (fun _=>rfl) l
@[go_sem] theorem Co.ltL (l:List Nat) (n:Nat):ltL n (l.map Co)=true:=cw.2 fun x hx=>by obtain⟨y,_,rfl⟩:=aH.1 hx;rfl
@[go_sem] theorem Co.ok (l:List Nat):cC 1 (l.map Co)=true:=by
 unfold cC;rw [aq];intro x hx;obtain⟨y,_,rfl⟩:=aH.1 hx;rfl
def jv (c:Int):AV:=.int .i64 c
@[go_sem] theorem jv.plainL (l:List Int):plainL (l.map jv)=true:=ej (fun _=>rfl) l
@[go_sem] theorem jv.ltL (l:List Int) (n:Nat):ltL n (l.map jv)=true:=cw.2 fun x hx=>by obtain⟨y,_,rfl⟩:=aH.1 hx;rfl
@[go_sem] theorem jv.ok (l:List Int):cC 1 (l.map jv)=true:=by
 unfold cC;rw [aq];intro x hx;obtain⟨y,_,rfl⟩:=aH.1 hx;rfl
def dE (s:List Int):AV:=.agg [.sval false (s.map jv)]
theorem xQ (s:List Int):(dE s).plain=true:=by simp only [dE,go_sem,jv.plainL]
theorem Ej (n:Nat) (s:List Int):(dE s).lt n=true:=by simp only [dE,go_sem,jv.ltL]
@[go_sem] theorem dE.plainL (l:List (List Int)):plainL (l.map dE)=true:=ej xQ l
@[go_sem] theorem dE.ltL (l:List (List Int)) (n:Nat):ltL n (l.map dE)=true:=cw.2 fun x hx=>by obtain⟨y,_,rfl⟩:=aH.1 hx;exact Ej n y
@[go_sem] theorem dE.ok (l:List (List Int)):cC 1 (l.map dE)=true:=by
 unfold cC;rw [aq];intro x hx;obtain⟨y,_,rfl⟩:=aH.1 hx;rfl
attribute [go_sem] dE jv
def nf (n:Int):Bool:=decide (n < -1)||decide (9999<n)
def jd (s:List Int):Bool:=s.length==0||(decide (6<s.length)||s.any nf)
def eo (l:List (List Int)):Bool:=decide (l.length≤16)&&(!(l==[[-1]])&&!l.any jd)
def w_ (l:List (List Int)):Int:=if eo l then 0 else 150
theorem EO (w0:World) (S:List ax) (n:Int) (R:Rt) (h:R (.ret (.bool (nf n))) S):ao Tryz.prog w0 78 [.int .i64 n] S R:=by
 unfold nf at h
 cases hd:decide (n < -1)<;>rw [hd] at h
 all_goals
  refine eN Tryz.func78 rfl Tryz.ntmps78 fun hO=>?_
  repeat' first | refine st ?_ | (refine br ?_ ?_<;>intro hb) | fail
  refine fR Tryz.results78 ?_
  first | exact h | (simpa using h)
theorem oB {α:Type}{p:α→Bool}{l:List α}{k:Nat}{x:α} (hx:l[k]? = some x) (h:(l.take k).any p=false) (hp:p x=false):(l.take (k+1)).any p=false:=by
 rw [eP,hx]
 simp [h,hp]
theorem vA {α:Type}{p:α→Bool}{l:List α}{k:Nat}{x:α} (hx:l[k]? = some x) (hp:p x=true):l.any p=true :=
 List.any_eq_true.2 ⟨x,ar hx,hp⟩
theorem Bb (w0:World) (S:List ax) (s:List Int) (hs:s.length≤1000000) (R:Rt) (h:∀ i:Int,decide (0≤i)=s.any nf→R (.ret (.int .i64 i)) S):ao Tryz.prog w0 159 [.sval false (s.map jv),.fn (.func 78) [] []] S R:=by
 have hb:=EO w0
 refine eN Tryz.func159 rfl Tryz.ntmps159 fun hO=>?_
 repeat' first | refine st ?_ | (refine br ?_ ?_<;>intro hb) | fail
 refine eJ (fun (k:Nat) env S'=>k≤s.length∧(s.take k).any nf=false∧env 1000000=.dfr []∧env 0=.sval false (s.map jv)∧env 1=.fn (.func 78) [] []∧env 7=.int .i64 s.length∧env 8=.int .i64 (k:Int)∧S'=S) (fun k=>s.length - k) 0 ?_ ?_
 ·exact⟨bx _,by simp,ss,ss,ss,ss,ss,rfl⟩
 ·rintro k env S' ⟨hk,hp,e0,f0,f1,f7,f8,rfl⟩ IH
  have HI:=ae IH
  have H:=ae h
  clear IH h
  by_cases hlt:k<s.length
  ·obtain⟨x,hx⟩:∃ x,s[k]? = some x:=⟨_,al hlt⟩
   have h1:decide ((k:Int)<(s.length:Int))=true:=by simpa using hlt
   have hw:af.wrap ((k:Int)+1)=((k+1:Nat):Int):=by rw [au _ (by omega)];omega
   have hpx:=hb
   cases hbx:nf x with
   | true =>
    have hh:=H.out (k:Int) (by rw [vA hx hbx];simp)
    have hb':=fun S'=>hb S' x
    rw [hbx] at hb'
    clear hk hp hlt HI hb hpx
    repeat' first | refine st ?_ | (refine ca ?_;apply hb') | (refine br ?_ ?_<;>intro hb) | fail
    refine fR Tryz.results159 ?_
    exact hh
   | false =>
    have hb':=fun S'=>hb S' x
    rw [hbx] at hb'
    have Hn:=ae (oB hx hp hbx)
    have Hlt:=ae hlt
    clear hk hp hlt hb hpx hbx
    repeat' first | refine st ?_ | (refine ca ?_;apply hb') | (refine br ?_ ?_<;>intro hb) | fail
    refine HI.out (k+1) _ _ (by have:=Hlt.out;omega) ⟨Hlt.out,Hn.out, ?_, ?_, ?_, ?_, ?_,rfl⟩
    all_goals (simp only [go_sem, *];try rfl)
  ·have h1:decide ((k:Int)<(s.length:Int))=false:=by simpa using hlt
   have hk':k=s.length:=by omega
   rw [hk',bk] at hp
   have hh:=H.out (-1) (by rw [hp];decide)
   clear hlt hk hk' HI hp
   repeat' first | refine st ?_ | (refine br ?_ ?_<;>intro hb) | fail
   refine fR Tryz.results159 ?_
   exact hh
theorem Dq (w0:World) (S:List ax) (s:List Int) (hs:s.length≤1000000) (R:Rt) (h:R (.ret (.bool (s.any nf))) S):ao Tryz.prog w0 77 [.sval false (s.map jv),.fn (.func 78) [] []] S R:=by
 have hi:=fun S'=>Bb w0 S' s hs
 generalize s.any nf=b at h hi
 refine eN Tryz.func77 rfl Tryz.ntmps77 fun hO=>?_
 repeat' first | refine st ?_ | (refine ca ?_;apply hi) | (refine br ?_ ?_<;>intro hb) | fail
 intro i hi2
 repeat' first | refine st ?_ | (refine br ?_ ?_<;>intro hb) | fail
 refine fR Tryz.results77 ?_
 exact h
theorem EN (w0:World) (S:List ax) (s:List Int) (hs:s.length≤1000000) (R:Rt) (h:R (.ret (.bool (jd s))) S):ao Tryz.prog w0 76 [dE s] S R:=by
 have hc:=fun S'=>Dq w0 S' s hs
 unfold jd at h
 unfold dE
 have e1:((s.length:Int)==0)=(s.length==0):=by rw [dX];simp
 have e2:decide ((6:Int)<(s.length:Int))=decide (6<s.length):=by rw [dX];simp;omega
 cases d1:s.length==0<;>cases d2:decide (6<s.length)<;>rw [d1,d2] at h<;>rw [d1] at e1<;>rw [d2] at e2<;>clear d1 d2 hs
 all_goals
  refine eN Tryz.func76 rfl Tryz.ntmps76 fun hO=>?_
  repeat' first | refine st ?_ | (refine ca ?_;apply hc) | (refine br ?_ ?_<;>intro hb) | fail
  refine fR Tryz.results76 ?_
  first | exact h | (simpa using h)
theorem A_ (w0:World) (S:List ax) (l:List (List Int)) (hl:l.length≤1000000) (hs:∀ s∈l,s.length≤1000000) (R:Rt) (h:∀ i:Int,decide (0≤i)=l.any jd→R (.ret (.int .i64 i)) S):ao Tryz.prog w0 160 [.sval false (l.map dE),.fn (.func 76) [] []] S R:=by
 have hb:=EN w0
 have Hs:=ae hs
 clear hs
 refine eN Tryz.func160 rfl Tryz.ntmps160 fun hO=>?_
 repeat' first | refine st ?_ | (refine br ?_ ?_<;>intro hb) | fail
 refine eJ (fun (k:Nat) env S'=>k≤l.length∧(l.take k).any jd=false∧env 1000000=.dfr []∧env 0=.sval false (l.map dE)∧env 1=.fn (.func 76) [] []∧env 7=.int .i64 l.length∧env 8=.int .i64 (k:Int)∧S'=S) (fun k=>l.length - k) 0 ?_ ?_
 ·exact⟨bx _,by simp,ss,ss,ss,ss,ss,rfl⟩
 ·rintro k env S' ⟨hk,hp,e0,f0,f1,f7,f8,rfl⟩ IH
  have HI:=ae IH
  have H:=ae h
  clear IH h
  by_cases hlt:k<l.length
  ·obtain⟨x,hx⟩:∃ x,l[k]? = some x:=⟨_,al hlt⟩
   have h1:decide ((k:Int)<(l.length:Int))=true:=by simpa using hlt
   have hw:af.wrap ((k:Int)+1)=((k+1:Nat):Int):=by rw [au _ (by omega)];omega
   have hb':=fun S'=>hb S' x (Hs.out x (ar hx))
   unfold dE at hb'
   cases hbx:jd x with
   | true =>
    have hh:=H.out (k:Int) (by rw [vA hx hbx];simp)
    rw [hbx] at hb'
    clear hk hp hlt HI hb hl
    repeat' first | refine st ?_ | (refine ca ?_;apply hb') | (refine br ?_ ?_<;>intro hb) | fail
    refine fR Tryz.results160 ?_
    exact hh
   | false =>
    rw [hbx] at hb'
    have Hn:=ae (oB hx hp hbx)
    have Hlt:=ae hlt
    clear hk hp hlt hb hbx
    repeat' first | refine st ?_ | (refine ca ?_;apply hb') | (refine br ?_ ?_<;>intro hb) | fail
    refine HI.out (k+1) _ _ (by have:=Hlt.out;omega) ⟨Hlt.out,Hn.out, ?_, ?_, ?_, ?_, ?_,rfl⟩
    all_goals (simp only [go_sem, *];try rfl)
  ·have h1:decide ((k:Int)<(l.length:Int))=false:=by simpa using hlt
   have hk':k=l.length:=by omega
   rw [hk',bk] at hp
   have hh:=H.out (-1) (by rw [hp];decide)
   clear hlt hk hk' HI hp
   repeat' first | refine st ?_ | (refine br ?_ ?_<;>intro hb) | fail
   refine fR Tryz.results160 ?_
   exact hh
theorem Dp (w0:World) (S:List ax) (l:List (List Int)) (hl:l.length≤1000000) (hs:∀ s∈l,s.length≤1000000) (R:Rt) (h:R (.ret (.bool (l.any jd))) S):ao Tryz.prog w0 80 [.sval false (l.map dE),.fn (.func 76) [] []] S R:=by
 have hi:=fun S'=>A_ w0 S' l hl hs
 generalize l.any jd=b at h hi
 clear hs
 refine eN Tryz.func80 rfl Tryz.ntmps80 fun hO=>?_
 repeat' first | refine st ?_ | (refine ca ?_;apply hi) | (refine br ?_ ?_<;>intro hb) | fail
 intro i hi2
 repeat' first | refine st ?_ | (refine br ?_ ?_<;>intro hb) | fail
 refine fR Tryz.results80 ?_
 exact h
theorem A1 {l:List (List Int)} (h:l.length=1):∃ s,l=[s]:=uu.1 h
theorem BH {l:List Int} (h:l.length=1):∃ s,l=[s]:=uu.1 h
theorem wU (l:List (List Int)):(((l.length:Int)==1)=false∧(l==[[-1]])=false)∨∃ s,l=[s]∧(((s.length:Int)==1)=false∧(l==[[-1]])=false∨∃ n,s=[n]∧(l==[[-1]])=(n==-1)):=by
 by_cases h:l.length=1
 ·right
  obtain⟨s,rfl⟩:=A1 h
  refine⟨s,rfl, ?_⟩
  by_cases h2:s.length=1
  ·right
   obtain⟨n,rfl⟩:=BH h2
   exact⟨n,rfl,by simp⟩
  ·left
   refine⟨by rw [beq_eq_false_iff_ne];omega, ?_⟩
   rw [beq_eq_false_iff_ne]
   intro e
   simp at e
   rw [e] at h2
   exact h2 rfl
 ·left
  refine⟨by rw [beq_eq_false_iff_ne];omega, ?_⟩
  rw [beq_eq_false_iff_ne]
  intro e
  rw [e] at h
  exact h rfl
theorem Dn (w0:World) (S:List ax) (l:List (List Int)) (R:Rt) (h:R (.ret (.bool (l==[[-1]]))) S):ao Tryz.prog w0 79 [.sval false (l.map dE)] S R:=by
 have e0:(((1:Nat):Int)==1)=true:=by decide
 rcases wU l with⟨e1,e2⟩ | ⟨s,rfl,⟨e1,e2⟩ | ⟨n,rfl,e2⟩⟩
 ·rw [e2] at h
  clear e2
  refine eN Tryz.func79 rfl Tryz.ntmps79 fun hO=>?_
  repeat' first | refine st ?_ | (refine br ?_ ?_<;>intro hb) | fail
  refine fR Tryz.results79 ?_
  exact h
 ·rw [e2] at h
  clear e2
  simp only [aA,aC,dE]
  refine eN Tryz.func79 rfl Tryz.ntmps79 fun hO=>?_
  repeat' first | refine st ?_ | (refine br ?_ ?_<;>intro hb) | fail
  refine fR Tryz.results79 ?_
  exact h
 ·rw [e2] at h
  clear e2
  simp only [aA,aC,dE,jv]
  refine eN Tryz.func79 rfl Tryz.ntmps79 fun hO=>?_
  repeat' first | refine st ?_ | (refine br ?_ ?_<;>intro hb) | fail
  refine fR Tryz.results79 ?_
  exact h
theorem B1 (a b:Nat):decide ((a:Int)<(b:Int))=decide (a<b):=by rw [dX];simp
def pC (l:List (List Int)):Prop:=l.length≤1000000∧∀ s∈l,s.length≤1000000
theorem rp (w0:World) (S:List ax) (l:List (List Int)) (hl:pC l) (R:Rt) (h:R (.ret (.int .i64 (w_ l))) S):ao Tryz.prog w0 36 [.sval false (l.map dE)] S R:=by
 have hc:=fun S'=>Dp w0 S' l hl.1 hl.2
 have he:=fun S'=>Dn w0 S' l
 unfold w_ eo at h
 have e2:decide ((16:Int)<(l.length:Int))=decide (16<l.length):=B1 16 l.length
 have e3:decide (l.length≤16) = !decide (16<l.length):=by rw [dX];simp
 rw [e3] at h
 cases d1:decide (16<l.length)<;>cases d2:l==[[-1]]<;>cases d3:l.any jd<;>rw [d1,d2,d3] at h<;>rw [d1] at e2<;>rw [d2] at he<;>rw [d3] at hc<;>clear d1 d2 d3 e3 hl
 all_goals
  refine eN Tryz.func36 rfl Tryz.ntmps36 fun hO=>?_
  repeat' first | refine st ?_ | (refine ca ?_;first | apply hc | apply he) | (refine br ?_ ?_<;>intro hb) | fail
  refine fR Tryz.results36 ?_
  exact h
def dV (l:List (List Int)) (i none:Int):Int :=
 if i<0 then none else match l[i.toNat]? with
  | some (n::_)=>if n<0 then none else n
  | _=>none
theorem mQ (w0:World) (S:List ax) (l:List (List Int)) (i none:Int) (R:Rt) (h:R (.ret (.int .i64 (dV l i none))) S):ao Tryz.prog w0 142 [.sval false (l.map dE),.int .i64 i,.int .i64 none] S R∧ao Tryz.prog w0 126 [.sval false (l.map dE),.int .i64 i,.int .i64 none] S R:=by
 unfold dV at h
 by_cases h0:i<0
 ·rw [if_pos h0] at h
  have d0:decide (i<0)=true:=decide_eq_true h0
  clear h0
  constructor
  ·refine eN Tryz.func142 rfl Tryz.ntmps142 fun hO=>?_
   repeat' first | refine st ?_ | (refine br ?_ ?_<;>intro hb) | fail
   refine fR Tryz.results142 ?_
   exact h
  ·refine eN Tryz.func126 rfl Tryz.ntmps126 fun hO=>?_
   repeat' first | refine st ?_ | (refine br ?_ ?_<;>intro hb) | fail
   refine fR Tryz.results126 ?_
   exact h
 ·rw [if_neg h0] at h
  obtain⟨k,rfl⟩:∃ k:Nat,i=(k:Int):=⟨i.toNat,by omega⟩
  rw [Int.toNat_natCast] at h
  have d0:decide ((k:Int)<0)=false:=decide_eq_false h0
  cases hx:l[k]? with
  | none =>
   rw [hx] at h
   have d1:decide ((l.length:Int)≤(k:Int))=true:=by simp;simpa using hx
   clear h0 hx
   constructor
   ·refine eN Tryz.func142 rfl Tryz.ntmps142 fun hO=>?_
    repeat' first | refine st ?_ | (refine br ?_ ?_<;>intro hb) | fail
    refine fR Tryz.results142 ?_
    exact h
   ·refine eN Tryz.func126 rfl Tryz.ntmps126 fun hO=>?_
    repeat' first | refine st ?_ | (refine br ?_ ?_<;>intro hb) | fail
    refine fR Tryz.results126 ?_
    exact h
  | some s =>
   rw [hx] at h
   have hk:k<l.length:=(ab.1 hx).1
   have d1:decide ((l.length:Int)≤(k:Int))=false:=by simp;omega
   clear h0 hk
   cases s with
   | nil =>
    have e0:(((0:Nat):Int)==0)=true:=by decide
    constructor
    ·refine eN Tryz.func142 rfl Tryz.ntmps142 fun hO=>?_
     repeat' first | refine st ?_ | (refine br ?_ ?_<;>intro hb) | fail
     refine fR Tryz.results142 ?_
     exact h
    ·refine eN Tryz.func126 rfl Tryz.ntmps126 fun hO=>?_
     repeat' first | refine st ?_ | (refine br ?_ ?_<;>intro hb) | fail
     refine fR Tryz.results126 ?_
     exact h
   | cons n s =>
    have e0:((((n::s).length:Nat):Int)==0)=false:=by rw [beq_eq_false_iff_ne];simp;omega
    simp only [aI] at e0
    simp only at h
    by_cases hn:n<0
    ·rw [if_pos hn] at h
     have d2:decide (n<0)=true:=decide_eq_true hn
     clear hn
     constructor
     ·refine eN Tryz.func142 rfl Tryz.ntmps142 fun hO=>?_
      repeat' first | refine st ?_ | (refine br ?_ ?_<;>intro hb) | fail
      refine fR Tryz.results142 ?_
      exact h
     ·refine eN Tryz.func126 rfl Tryz.ntmps126 fun hO=>?_
      repeat' first | refine st ?_ | (refine br ?_ ?_<;>intro hb) | fail
      refine fR Tryz.results126 ?_
      exact h
    ·rw [if_neg hn] at h
     have d2:decide (n<0)=false:=decide_eq_false hn
     clear hn
     constructor
     ·refine eN Tryz.func142 rfl Tryz.ntmps142 fun hO=>?_
      repeat' first | refine st ?_ | (refine br ?_ ?_<;>intro hb) | fail
      refine fR Tryz.results142 ?_
      exact h
     ·refine eN Tryz.func126 rfl Tryz.ntmps126 fun hO=>?_
      repeat' first | refine st ?_ | (refine br ?_ ?_<;>intro hb) | fail
      refine fR Tryz.results126 ?_
      exact h
theorem Ax (w0:World) (S:List ax) (b:Nat) (R:Rt) (h:R (.ret (.int .i64 (ir b:Nat))) S):ao Tryz.prog w0 257 [.int .u8 b] S R:=by
 refine eN Tryz.func257 rfl Tryz.ntmps257 fun hO=>?_
 repeat' first | refine st ?_ | (refine br ?_ ?_<;>intro hb) | fail
 all_goals refine fR Tryz.results257 ?_
 all_goals
  refine cast (congrArg (fun v=>R (.ret (.int .i64 v)) S) ?_) h
  simp only [decide_eq_true_eq,decide_eq_false_iff_not] at *
  unfold ir
  repeat' split
  all_goals first | omega | rfl | decide
theorem nW (w0:World) (S:List ax) (b:Nat) (R:Rt) (h:R (.ret (.tup [.int .u8 (Bx b:Nat),.int .u8 (BI b:Nat)])) S):ao Tryz.prog w0 258 [.int .u8 b] S R:=by
 refine eN Tryz.func258 rfl Tryz.ntmps258 fun hO=>?_
 repeat' first | refine st ?_ | (refine br ?_ ?_<;>intro hb) | fail
 all_goals refine fR Tryz.results258 ?_
 all_goals
  simp only [beq_iff_eq,beq_eq_false_iff_ne,ne_eq,decide_eq_true_eq,decide_eq_false_iff_not] at *
  have e1:(b=224)=((b:Int)=224):=by simp;omega
  have e2:(b=237)=((b:Int)=237):=by simp;omega
  have e3:(b=240)=((b:Int)=240):=by simp;omega
  have e4:(b=244)=((b:Int)=244):=by simp;omega
  unfold Bx BI at h
  simpa [e1,e2,e3,e4, *] using h
theorem yr (w0:World) (S:List ax) (cp:Nat) (R:Rt) (h:R (.ret (.bool (Bd cp))) S):ao Tryz.prog w0 45 [.int .i64 cp] S R:=by
 refine eN Tryz.func45 rfl Tryz.ntmps45 fun hO=>?_
 repeat' first | refine st ?_ | (refine br ?_ ?_<;>intro hb) | fail
 all_goals refine fR Tryz.results45 ?_
 all_goals
  have e:(cp:Int).fdiv (2 ^ min 11 64)=((cp / 2048:Nat):Int):=by
   rw [show (2:Int) ^ min 11 64=2048 by decide,vJ _ (by omega)]
   omega
  refine cast (congrArg (fun v=>R (.ret (.bool v)) S) ?_) h
  simp only [decide_eq_true_eq,decide_eq_false_iff_not] at hb
  unfold Bd
  first
  | (rw [dX,e];simp only [aj,decide_eq_true_eq,az,fj,decide_eq_false_iff_not,bne_iff_ne,ne_eq];omega)
  | (rw [fj];left;simp only [decide_eq_false_iff_not];omega)
theorem Cv (w0:World) (S:List ax) (p:List Nat) (h1:p≠[]) (h4:p.length≤4) (R:Rt) (h:R (.ret (.int .i64 (eM p:Nat))) S):ao Tryz.prog w0 212 [.sval false (p.map By)] S R:=by
 match p,h1,h4 with
 | [a],_,_ =>
  have hl:=fun S'=>Ax w0 S' a
  have hs:=fun S'=>nW w0 S' a
  obtain⟨n,hn⟩:∃ n,ir a=n:=⟨_,rfl⟩
  obtain⟨lo,hlo⟩:∃ n,Bx a=n:=⟨_,rfl⟩
  obtain⟨hi,hhi⟩:∃ n,BI a=n:=⟨_,rfl⟩
  have hk:eM [a]=if n<([]:List Nat).length+1 then 0 else if jY lo hi ([]:List Nat) then (if ([]:List Nat).length+1<n then 1 else 2) else 0:=by rw [eM,hn,hlo,hhi]
  rw [hn] at hl
  rw [hlo,hhi] at hs
  simp only [aA,aC,By]
  clear h1 h4 hn hlo hhi
  have HK:=ae hk
  clear hk
  refine eN Tryz.func212 rfl Tryz.ntmps212 fun hO=>?_
  repeat' first | refine st ?_ | (refine ca ?_;first | apply hl | apply hs) | (refine br ?_ ?_<;>intro hb) | apply cR | apply fO | fail
  all_goals refine fR Tryz.results212 ?_
  all_goals
   refine cast (congrArg (fun v=>R (.ret (.int .i64 v)) S) ?_) h
   rw [HK.out]
   simp only [jY,aI,aU,aj,decide_eq_true_eq,decide_eq_false_iff_not,i8,and_true] at *
   repeat' split
   all_goals first | omega | rfl | (exact absurd trivial (by assumption))
 | [a,b],_,_ =>
  have hl:=fun S'=>Ax w0 S' a
  have hs:=fun S'=>nW w0 S' a
  obtain⟨n,hn⟩:∃ n,ir a=n:=⟨_,rfl⟩
  obtain⟨lo,hlo⟩:∃ n,Bx a=n:=⟨_,rfl⟩
  obtain⟨hi,hhi⟩:∃ n,BI a=n:=⟨_,rfl⟩
  have hk:eM [a,b]=if n<([b]:List Nat).length+1 then 0 else if jY lo hi ([b]:List Nat) then (if ([b]:List Nat).length+1<n then 1 else 2) else 0:=by rw [eM,hn,hlo,hhi]
  rw [hn] at hl
  rw [hlo,hhi] at hs
  simp only [aA,aC,By]
  clear h1 h4 hn hlo hhi
  have HK:=ae hk
  clear hk
  refine eN Tryz.func212 rfl Tryz.ntmps212 fun hO=>?_
  repeat' first | refine st ?_ | (refine ca ?_;first | apply hl | apply hs) | (refine br ?_ ?_<;>intro hb) | apply cR | apply fO | fail
  all_goals refine fR Tryz.results212 ?_
  all_goals
   refine cast (congrArg (fun v=>R (.ret (.int .i64 v)) S) ?_) h
   rw [HK.out]
   simp only [jY,aI,aU,aj,decide_eq_true_eq,decide_eq_false_iff_not,i8,and_true] at *
   repeat' split
   all_goals first | omega | rfl | (exact absurd trivial (by assumption))
 | [a,b,c],_,_ =>
  have hl:=fun S'=>Ax w0 S' a
  have hs:=fun S'=>nW w0 S' a
  obtain⟨n,hn⟩:∃ n,ir a=n:=⟨_,rfl⟩
  obtain⟨lo,hlo⟩:∃ n,Bx a=n:=⟨_,rfl⟩
  obtain⟨hi,hhi⟩:∃ n,BI a=n:=⟨_,rfl⟩
  have hk:eM [a,b,c]=if n<([b,c]:List Nat).length+1 then 0 else if jY lo hi ([b,c]:List Nat) then (if ([b,c]:List Nat).length+1<n then 1 else 2) else 0:=by rw [eM,hn,hlo,hhi]
  rw [hn] at hl
  rw [hlo,hhi] at hs
  simp only [aA,aC,By]
  clear h1 h4 hn hlo hhi
  have HK:=ae hk
  clear hk
  refine eN Tryz.func212 rfl Tryz.ntmps212 fun hO=>?_
  repeat' first | refine st ?_ | (refine ca ?_;first | apply hl | apply hs) | (refine br ?_ ?_<;>intro hb) | apply cR | apply fO | fail
  all_goals refine fR Tryz.results212 ?_
  all_goals
   refine cast (congrArg (fun v=>R (.ret (.int .i64 v)) S) ?_) h
   rw [HK.out]
   simp only [jY,aI,aU,aj,decide_eq_true_eq,decide_eq_false_iff_not,i8,and_true] at *
   repeat' split
   all_goals first | omega | rfl | (exact absurd trivial (by assumption))
 | [a,b,c,d],_,_ =>
  have hl:=fun S'=>Ax w0 S' a
  have hs:=fun S'=>nW w0 S' a
  obtain⟨n,hn⟩:∃ n,ir a=n:=⟨_,rfl⟩
  obtain⟨lo,hlo⟩:∃ n,Bx a=n:=⟨_,rfl⟩
  obtain⟨hi,hhi⟩:∃ n,BI a=n:=⟨_,rfl⟩
  have hk:eM [a,b,c,d]=if n<([b,c,d]:List Nat).length+1 then 0 else if jY lo hi ([b,c,d]:List Nat) then (if ([b,c,d]:List Nat).length+1<n then 1 else 2) else 0:=by rw [eM,hn,hlo,hhi]
  rw [hn] at hl
  rw [hlo,hhi] at hs
  simp only [aA,aC,By]
  clear h1 h4 hn hlo hhi
  have HK:=ae hk
  clear hk
  refine eN Tryz.func212 rfl Tryz.ntmps212 fun hO=>?_
  repeat' first | refine st ?_ | (refine ca ?_;first | apply hl | apply hs) | (refine br ?_ ?_<;>intro hb) | apply cR | apply fO | fail
  all_goals refine fR Tryz.results212 ?_
  all_goals
   refine cast (congrArg (fun v=>R (.ret (.int .i64 v)) S) ?_) h
   rw [HK.out]
   simp only [jY,aI,aU,aj,decide_eq_true_eq,decide_eq_false_iff_not,i8,and_true] at *
   repeat' split
   all_goals first | omega | rfl | (exact absurd trivial (by assumption))
theorem uC (w0:World) (S:List ax) (p:List Nat) (h4:p.length≤4) (R:Rt) (h:R (.ret (.bool (fm p))) S):ao Tryz.prog w0 164 [.sval false (p.map By)] S R:=by
 by_cases hp:p=[]
 ·subst hp
  rw [wV] at h
  simp only [aC]
  have e0:(((0:Nat):Int)==0)=true:=rfl
  clear h4
  refine eN Tryz.func164 rfl Tryz.ntmps164 fun hO=>?_
  repeat' first | refine st ?_ | (refine br ?_ ?_<;>intro hb) | fail
  refine fR Tryz.results164 ?_
  exact h
 ·have hk:=fun S'=>Cv w0 S' p hp h4
  have hl:((p.length:Int)==0)=false:=by
   rw [beq_eq_false_iff_ne]
   intro e
   exact hp (mM.1 (by omega))
  have hr:fm p=((eM p:Int)==1):=by
   unfold fm
   rw [decide_eq_false hp,uq,dX,decide_eq_true_eq,beq_iff_eq]
   omega
  rw [hr] at h
  clear hr hp h4
  refine eN Tryz.func164 rfl Tryz.ntmps164 fun hO=>?_
  repeat' first | refine st ?_ | (refine ca ?_;apply hk) | (refine br ?_ ?_<;>intro hb) | fail
  refine fR Tryz.results164 ?_
  exact h
theorem wR {c x:Nat} (hc:c<32768) (hx:x<64):af.wrap (((ai af.bits (af.wrap ((c:Int) * 2 ^ min 6 64)) ||| ai af.bits (x:Int)).toNat:Nat):Int)=((c * 64+x:Nat):Int):=by
 have e1:af.wrap ((c:Int) * 2 ^ min 6 64)=((c * 64:Nat):Int):=by
  rw [show (2:Int) ^ min 6 64=64 by decide,au _ (by omega)]
  omega
 rw [e1,Cn]
 have e2:(ai af.bits ((c * 64:Nat):Int)).toNat=c * 64:=by
  show (ai 64 _).toNat=_
  rw [bL];omega
 have e3:(ai af.bits (x:Int)).toNat=x:=by
  show (ai 64 _).toNat=_
  rw [bL];omega
 rw [e2,e3]
 have e4:c * 64 ||| x=c * 64+x:=by
  have:=Nat.shiftLeft_add_eq_or_of_lt (b:=x) (i:=6) (by omega) c
  rw [Nat.shiftLeft_eq] at this
  exact this.symm
 rw [e4]
 exact au _ (by omega)
theorem qG {b:Nat} (hb:b<256):af.wrap (aW.wrap (((ai aW.bits (b:Int) &&& ai aW.bits 63).toNat:Nat):Int))=((b % 64:Nat):Int):=by
 rw [Au]
 have e1:(ai aW.bits (b:Int)).toNat=b:=by
  show (ai 8 _).toNat=_
  rw [bL];omega
 have e2:(ai aW.bits 63).toNat=63:=by decide
 rw [e1,e2,show b &&& 63=b % 64 from vH b 6,en _ (by omega)]
 exact au _ (by omega)
theorem Ec {b k:Nat} (hb:b<256) (hk:k≤8):af.wrap (((ai af.bits (b:Int) &&& ai af.bits ((2 ^ k - 1:Nat):Int)).toNat:Nat):Int)=((b % 2 ^ k:Nat):Int):=by
 rw [Au]
 have h2:2 ^ k≤2 ^ 8:=dL (by omega) hk
 have h0:0<2 ^ k:=Nat.two_pow_pos k
 have e1:(ai af.bits (b:Int)).toNat=b:=by
  show (ai 64 _).toNat=_
  rw [bL];omega
 have e2:(ai af.bits ((2 ^ k - 1:Nat):Int)).toNat=2 ^ k - 1:=by
  show (ai 64 _).toNat=_
  rw [bL];omega
 rw [e1,e2,vH b k]
 have:=gj b h0
 exact au _ (by omega)
theorem Er (w0:World) (S:List ax) (p:List Nat) (hk:eM p=2) (hb:∀ x∈p,x<256) (R:Rt) (h:R (.ret (.int .i64 (iY p:Nat))) S):ao Tryz.prog w0 259 [.sval false (p.map By)] S R:=by
 match p with
 | []=>cases hk
 | [a] =>
  have h:R (.ret (.int .i64 a)) S:=h
  simp only [aA,aC,By]
  have ha:=hb a (by simp)
  have hw:af.wrap (a:Int)=a:=au _ (by omega)
  clear hb hk
  refine eN Tryz.func259 rfl Tryz.ntmps259 fun hO=>?_
  repeat' first | refine st ?_ | (refine br ?_ ?_<;>intro hb) | apply cR | apply fO | fail
  all_goals refine fR Tryz.results259 ?_
  exact h
 | [a,b] =>
  simp only [aA,aC,By]
  have ha:=hb a (by simp)
  have hw:af.wrap (a:Int)=a:=au _ (by omega)
  have gf:(255:Int).fdiv (2 ^ min (af.wrap (((2:Nat):Int)+1)).toNat 64)=((2 ^ 5 - 1:Nat):Int):=by decide
  have ga:=Ec (b:=a) (k:=5) ha (by omega)
  obtain⟨c0,hc0⟩:∃ c0,a % 2 ^ 5=c0:=⟨_,rfl⟩
  have hc0l:c0<32:=by rw [← hc0];exact gj _ (by decide)
  rw [hc0] at ga
  have gb:=qG (hb b (by simp))
  have mb:b % 64<64:=gj _ (by omega)
  have q1:=wR (c:=c0) (x:=b % 64) (by omega) mb
  obtain⟨c1,hc1⟩:∃ cc,c0 * 64+b % 64=cc:=⟨_,rfl⟩
  have hc1l:c1<2048:=by omega
  rw [hc1] at q1
  have hcode:iY [a,b]=c1:=by
   have e:iY [a,b]=a % 2 ^ (7 - (1+1)) * 64+b % 64:=rfl
   rw [e]
   have e2:a % 2 ^ 5=a % (2 ^ (7 - (1+1))):=rfl
   omega
  rw [hcode] at h
  clear hb hk hcode ha
  simp only [a6] at ga gb q1
  refine eN Tryz.func259 rfl Tryz.ntmps259 fun hO=>?_
  repeat' first | refine st ?_ | (refine br ?_ ?_<;>intro hb) | apply cR | apply fO | fail
  all_goals refine fR Tryz.results259 ?_
  exact h
 | [a,b,c] =>
  simp only [aA,aC,By]
  have ha:=hb a (by simp)
  have hw:af.wrap (a:Int)=a:=au _ (by omega)
  have gf:(255:Int).fdiv (2 ^ min (af.wrap (((3:Nat):Int)+1)).toNat 64)=((2 ^ 4 - 1:Nat):Int):=by decide
  have ga:=Ec (b:=a) (k:=4) ha (by omega)
  obtain⟨c0,hc0⟩:∃ c0,a % 2 ^ 4=c0:=⟨_,rfl⟩
  have hc0l:c0<16:=by rw [← hc0];exact gj _ (by decide)
  rw [hc0] at ga
  have gb:=qG (hb b (by simp))
  have mb:b % 64<64:=gj _ (by omega)
  have q1:=wR (c:=c0) (x:=b % 64) (by omega) mb
  obtain⟨c1,hc1⟩:∃ cc,c0 * 64+b % 64=cc:=⟨_,rfl⟩
  have hc1l:c1<1024:=by omega
  rw [hc1] at q1
  have gc:=qG (hb c (by simp))
  have mc:c % 64<64:=gj _ (by omega)
  have q2:=wR (c:=c1) (x:=c % 64) (by omega) mc
  obtain⟨c2,hc2⟩:∃ cc,c1 * 64+c % 64=cc:=⟨_,rfl⟩
  have hc2l:c2<65536:=by omega
  rw [hc2] at q2
  have hcode:iY [a,b,c]=c2:=by
   have e:iY [a,b,c]=(a % 2 ^ (7 - (2+1)) * 64+b % 64) * 64+c % 64:=rfl
   rw [e]
   have e2:a % 2 ^ 4=a % (2 ^ (7 - (2+1))):=rfl
   omega
  rw [hcode] at h
  clear hb hk hcode ha
  simp only [a6] at ga gb q1 gc q2
  refine eN Tryz.func259 rfl Tryz.ntmps259 fun hO=>?_
  repeat' first | refine st ?_ | (refine br ?_ ?_<;>intro hb) | apply cR | apply fO | fail
  all_goals refine fR Tryz.results259 ?_
  exact h
 | [a,b,c,d] =>
  simp only [aA,aC,By]
  have ha:=hb a (by simp)
  have hw:af.wrap (a:Int)=a:=au _ (by omega)
  have gf:(255:Int).fdiv (2 ^ min (af.wrap (((4:Nat):Int)+1)).toNat 64)=((2 ^ 3 - 1:Nat):Int):=by decide
  have ga:=Ec (b:=a) (k:=3) ha (by omega)
  obtain⟨c0,hc0⟩:∃ c0,a % 2 ^ 3=c0:=⟨_,rfl⟩
  have hc0l:c0<8:=by rw [← hc0];exact gj _ (by decide)
  rw [hc0] at ga
  have gb:=qG (hb b (by simp))
  have mb:b % 64<64:=gj _ (by omega)
  have q1:=wR (c:=c0) (x:=b % 64) (by omega) mb
  obtain⟨c1,hc1⟩:∃ cc,c0 * 64+b % 64=cc:=⟨_,rfl⟩
  have hc1l:c1<512:=by omega
  rw [hc1] at q1
  have gc:=qG (hb c (by simp))
  have mc:c % 64<64:=gj _ (by omega)
  have q2:=wR (c:=c1) (x:=c % 64) (by omega) mc
  obtain⟨c2,hc2⟩:∃ cc,c1 * 64+c % 64=cc:=⟨_,rfl⟩
  have hc2l:c2<32768:=by omega
  rw [hc2] at q2
  have gd:=qG (hb d (by simp))
  have md:d % 64<64:=gj _ (by omega)
  have q3:=wR (c:=c2) (x:=d % 64) (by omega) md
  obtain⟨c3,hc3⟩:∃ cc,c2 * 64+d % 64=cc:=⟨_,rfl⟩
  have hc3l:c3<2097152:=by omega
  rw [hc3] at q3
  have hcode:iY [a,b,c,d]=c3:=by
   have e:iY [a,b,c,d]=((a % 2 ^ (7 - (3+1)) * 64+b % 64) * 64+c % 64) * 64+d % 64:=rfl
   rw [e]
   have e2:a % 2 ^ 3=a % (2 ^ (7 - (3+1))):=rfl
   omega
  rw [hcode] at h
  clear hb hk hcode ha
  simp only [a6] at ga gb q1 gc q2 gd q3
  refine eN Tryz.func259 rfl Tryz.ntmps259 fun hO=>?_
  repeat' first | refine st ?_ | (refine br ?_ ?_<;>intro hb) | apply cR | apply fO | fail
  all_goals refine fR Tryz.results259 ?_
  exact h
 | a::b::c::d::e::r =>
  obtain⟨h1,_⟩:=zk hk
  have:ir a≤4:=by
   unfold ir
   repeat' split
   all_goals omega
  simp at h1
  omega
@[go_sem] theorem By.all1 (l:List Nat):((l.map By).all fun el=>el.cells.length==1)=true:=by
 rw [aq];intro x hx;obtain⟨y,_,rfl⟩:=aH.1 hx;rfl
theorem CZ (w0:World) (S:List ax) (p:List Nat) (hr:fm p=true) (R:Rt) (h:R (.ret (.sval false ((jc p).map Co))) S):ao Tryz.prog w0 269 [.sval false (p.map By)] S R:=by
 have hri:=fun S'=>uC w0 S' p (Ao (qa hr))
 rw [hr] at hri
 by_cases hp:p=[]
 ·subst hp
  have h:R (.ret (.sval false [])) S:=h
  have e0:decide ((0:Int)<((0:Nat):Int))=false:=rfl
  simp only [aC]
  clear hr hri
  refine eN Tryz.func269 rfl Tryz.ntmps269 fun hO=>?_
  repeat' first | refine st ?_ | (refine br ?_ ?_<;>intro hb) | fail
  refine fR Tryz.results269 ?_
  exact h
 ·have hl:decide ((0:Int)<(p.length:Int))=true:=by
   cases p with
   | nil=>exact absurd rfl hp
   | cons a r=>simp only [aI,decide_eq_true_eq];omega
  rw [jc,if_neg hp] at h
  have h:R (.ret (.sval false [AV.int .i64 65533])) S:=h
  clear hr hp
  refine eN Tryz.func269 rfl Tryz.ntmps269 fun hO=>?_
  repeat' first | refine st ?_ | (refine ca ?_;apply hri) | (refine br ?_ ?_<;>intro hb) | fail
  refine fR Tryz.results269 ?_
  exact h
def ls (q:List Nat × List Nat):AV:=.tup [.sval false (q.1.map By),.sval false (q.2.map Co)]
theorem yq (w0:World) (S:List ax) (p:List Nat) (b:Nat) (hb:b<256) (hr:fm p=true) (hp:∀ x∈p,x<256)
    (hrec:p≠[]→∀ (S':List ax) (R:Rt),R (.ret (ls (hU b))) S'→ao Tryz.prog w0 213 [.sval false [],.int .u8 b] S' R)
    (R:Rt) (h:R (.ret (ls (dj p b))) S):ao Tryz.prog w0 213 [.sval false (p.map By),.int .u8 b] S R:=by
  have hl3:=qa hr
  have hri:=fun S'=>uC w0 S' p (Ao hl3)
  rw [hr] at hri
  have hk:=fun S'=>Cv w0 S' (p++[b]) (by simp) (by simp;omega)
  have hb1:(p.length+1) * 1≤140737488355328:=by omega
  have happ:bE By p++[AV.int .u8 b]=bE By (p++[b]):=by rw [bg];rfl
  have hlen:(p++[b]).length=p.length+1:=by simp
  have htk:lm p.length (bE By p)=bE By p:=cA (by simp)
  have hc:=fun S' (hh:eM (p++[b])=2)=>Er w0 S' (p++[b]) hh (by
    intro x hx
    rcases bv.1 hx with hx | hx
    · exact hp x hx
    · rw [aZ.1 hx];exact hb)
  have hall:=By.all1 p
  simp only [AV.cells] at hall
  have okA:=By.ok p
  simp only [cC,AV.cells] at okA
  have hle:(p.length:Int)≤(p.length:Int):=wA _
  have hbe:(p.length==p.length)=true:=by simp
  unfold dj at h
  have Happ:=ae happ
  have Hc:=ae hc
  have Hrec:=ae hrec
  have H:=ae h
  clear hp hb happ hc hrec h hl3 hr
  refine eN Tryz.func213 rfl Tryz.ntmps213 fun hO=>?_
  repeat' first | refine st ?_ | (refine ca ?_;apply hri) | (refine br ?_ ?_<;>intro hb) | fail
  rw [Happ.out]
  refine ew (S.length+1) ss ?_
  try simp only [go_sem, *]
  obtain⟨kd,hkd⟩:∃ kd,eM (p++[b])=kd:=⟨_,rfl⟩
  rw [hkd] at hk
  have h012:kd=0∨kd=1∨kd=2:=by
    rw [← hkd]
    cases p with
    | nil => simp only [cU, eM]; repeat' split
             all_goals simp
    | cons a r => simp only [cz, eM]; repeat' split
                  all_goals simp
  rcases h012 with rfl | rfl | rfl
  · have hh := H.out
    rw [hkd,if_neg (by decide),if_neg (by decide)] at hh
    clear hkd
    by_cases hp:p=[]
    · subst hp
      rw [if_pos rfl] at hh
      have e0:(((0:Nat):Int)==0)=true:=rfl
      unfold ls at hh
      simp only [aA,aC,Co] at hh
      repeat' first | refine st ?_ | (refine ca ?_;apply hk) | (refine br ?_ ?_<;>intro hb) | fail
      refine fR Tryz.results213 ?_
      exact hh
    · rw [if_neg hp] at hh
      have hrec:=Hrec.out hp
      have hl0:((p.length:Int)==0)=false:=by
        rw [beq_eq_false_iff_ne]
        intro e
        exact hp (mM.1 (by omega))
      have hq1:(hU b).2.length≤1:=by unfold hU;split<;>(try split)<;>simp
      generalize hU b=q at hrec hh hq1
      obtain⟨q1,q2⟩:=q
      unfold ls at hh hrec
      simp only [aA,Co] at hh hrec hq1
      have okC:=Co.ok q2
      simp only [cC,AV.cells] at okC
      have hb8:(1+q2.length) * 8≤140737488355328:=by omega
      clear hp hq1
      repeat' first | refine st ?_ | (refine ca ?_;first | apply hk | apply hrec) | (refine br ?_ ?_<;>intro hb) | fail
      have hcm:(1+q2.length=q2.length+1)=True:=by rw [Nat.add_comm];simp
      refine fR Tryz.results213 ?_
      exact hh
  · have hh := H.out
    rw [hkd,if_neg (by decide),if_pos rfl] at hh
    unfold ls at hh
    simp only [aC] at hh
    clear hkd
    repeat' first | refine st ?_ | (refine ca ?_;apply hk) | (refine br ?_ ?_<;>intro hb) | fail
    refine fR Tryz.results213 ?_
    exact hh
  · have hh := H.out
    rw [hkd,if_pos rfl] at hh
    have hc:=fun S'=>Hc.out S' hkd
    unfold ls at hh
    simp only [aA,aC,Co] at hh
    clear hkd
    repeat' first | refine st ?_ | (refine ca ?_;first | apply hk | apply hc) | (refine br ?_ ?_<;>intro hb) | fail
    refine fR Tryz.results213 ?_
    exact hh
theorem CY (w0:World) (S:List ax) (b:Nat) (hb:b<256) (R:Rt) (h:R (.ret (ls (hU b))) S):ao Tryz.prog w0 213 [.sval false [],.int .u8 b] S R:=by
 refine yq w0 S [] b hb rfl (by simp) (fun hh=>absurd rfl hh) R ?_
 have e:dj [] b=hU b:=by unfold dj hU;simp
 rw [e];exact h
theorem Cu (w0:World) (S:List ax) (p:List Nat) (b:Nat) (hb:b<256) (hr:fm p=true) (hp:∀ x∈p,x<256) (R:Rt) (h:R (.ret (ls (dj p b))) S) :
  ao Tryz.prog w0 213 [.sval false (p.map By),.int .u8 b] S R :=
 yq w0 S p b hb hr hp (fun _ S' R h=>CY w0 S' b hb R h) R h
theorem oz (m:Nat):aW.wrap (m:Int)=((m % 256:Nat):Int):=by
 have h:aW.wrap (m:Int)=(m:Int) % 256:=by simp [IntKind.wrap,IntKind.signed,a6]
 rw [h]
 omega
theorem ET:∀ x:Nat,x<256→aW.wrap (((ai aW.bits 128 ||| ai aW.bits (aW.wrap (((ai aW.bits (x:Int) &&& ai aW.bits 63).toNat:Nat):Int))).toNat:Nat):Int)=((128+x % 64:Nat):Int):=by decide +kernel
theorem ES:∀ x:Nat,x<32→aW.wrap (((ai aW.bits 192 ||| ai aW.bits (x:Int)).toNat:Nat):Int)=((192+x:Nat):Int):=by decide +kernel
theorem ER:∀ x:Nat,x<16→aW.wrap (((ai aW.bits 224 ||| ai aW.bits (x:Int)).toNat:Nat):Int)=((224+x:Nat):Int):=by decide +kernel
theorem EP:∀ x:Nat,x<8→aW.wrap (((ai aW.bits 240 ||| ai aW.bits (x:Int)).toNat:Nat):Int)=((240+x:Nat):Int):=by decide +kernel
theorem FI (cp k:Nat) (hk:k≤64):(cp:Int).fdiv (2 ^ min k 64)=((cp / 2 ^ k:Nat):Int):=by
 rw [Nat.min_eq_left hk,vJ _ (Int.le_of_lt (Int.pow_pos (by decide)))]
 rw [Int.natCast_ediv,Int.natCast_pow]
 rfl
theorem sH (w0:World) (S:List ax) (a cp k:Nat) (hk:k≤64) (ha:S[a]? = some (.cells [.int .i64 cp])) (R:Rt) (h:R (.ret (.int .u8 (128+cp / 2 ^ k % 64:Nat))) S) :
  ao Tryz.prog w0 270 [.int .i64 k,.own a 0] S R:=by
 have hf:=FI cp k hk
 have hw:=oz (cp / 2 ^ k)
 have hx:=ET (cp / 2 ^ k % 256) (gj _ (by decide))
 have hm:cp / 2 ^ k % 256 % 64=cp / 2 ^ k % 64:=by omega
 have h0:(0:Int)≤(k:Int):=by omega
 rw [hm] at hx
 simp only [a6] at hx
 clear hm hk
 refine eN Tryz.func270 rfl Tryz.ntmps270 fun hO=>?_
 repeat' first | refine st ?_ | (refine br ?_ ?_<;>intro hb) | fail
 refine fR Tryz.results270 ?_
 exact h
def pO (cp:Nat):List UInt8:=(rh cp).map aD
theorem FU (w0:World) (S:List ax) (cp:Nat) (hb:cp<4294967296) (R:Rt) (h:R (.ret (.str (pO cp))) S):ao Tryz.prog w0 229 [.int .i64 cp] S R:=by
 have hck:=fun S'=>yr w0 S' cp
 unfold pO rh at h
 cases hok:Bd cp with
 | false =>
  rw [hok,if_neg (by decide)] at h
  rw [hok] at hck
  have h:R (.ret (.str [239,191,189])) S:=h
  have c0:=fun S' ha=>sH w0 S' S.length 65533 0 (by decide) ha
  have c6:=fun S' ha=>sH w0 S' S.length 65533 6 (by decide) ha
  have q6:(128+65533 / 2 ^ 6 % 64:Nat)=191:=rfl
  have q0:(128+65533 / 2 ^ 0 % 64:Nat)=189:=rfl
  rw [q0] at c0
  rw [q6] at c6
  have k0:(((0:Nat):Int))=0:=rfl
  have k6:(((6:Nat):Int))=6:=rfl
  have kc:(((65533:Nat):Int))=65533:=rfl
  rw [k0] at c0
  rw [k6] at c6
  rw [kc] at c0 c6
  have z1:aW.wrap (((ai aW.bits 224 ||| ai aW.bits (aW.wrap ((65533:Int).fdiv (2 ^ min 12 64)))).toNat:Nat):Int)=239:=by decide
  simp only [a6] at z1
  clear q0 q6 k0 k6 kc hb hok
  refine eN Tryz.func229 rfl Tryz.ntmps229 fun hO=>?_
  repeat' first | refine st ?_ | (refine ca ?_;first | apply hck | (apply c0;(· simp only [go_sem, *];try rfl)) | (apply c6;(· simp only [go_sem, *];try rfl))) | (refine br ?_ ?_<;>intro hb) | refine sd ?_ | apply aB | (apply aL;(· decide +kernel)) | refine bd ?_ ?_ | (refine cd ?_;first | apply hck | (apply c0;(· simp only [go_sem, *];try rfl)) | (apply c6;(· simp only [go_sem, *];try rfl))) | fail
  refine fR Tryz.results229 ?_
  exact h
 | true =>
  rw [hok,if_pos rfl] at h
  rw [hok] at hck
  have hle:cp≤1114111:=by
   simp only [Bd,aj,decide_eq_true_eq] at hok
   exact hok.1
  have c0:=fun S' ha=>sH w0 S' S.length cp 0 (by decide) ha
  have c6:=fun S' ha=>sH w0 S' S.length cp 6 (by decide) ha
  have c12:=fun S' ha=>sH w0 S' S.length cp 12 (by decide) ha
  have k0:(((0:Nat):Int))=0:=rfl
  have k6:(((6:Nat):Int))=6:=rfl
  have k12:(((12:Nat):Int))=12:=rfl
  rw [k0] at c0
  rw [k6] at c6
  rw [k12] at c12
  have f6:=FI cp 6 (by decide)
  have f12:=FI cp 12 (by decide)
  have f18:=FI cp 18 (by decide)
  have w0':=oz cp
  have w6:=oz (cp / 2 ^ 6)
  have w12:=oz (cp / 2 ^ 12)
  have w18:=oz (cp / 2 ^ 18)
  clear hok hb k0 k6 k12
  by_cases h1:cp<128
  ·have d1:decide ((cp:Int)<128)=true:=by simpa using (show (cp:Int)<128 by omega)
   have e:mf cp=[cp]:=by unfold mf;rw [if_pos h1]
   rw [e] at h
   rw [iG (show cp<256 by omega)] at w0'
   have h:R (.ret (.str [aD cp])) S:=h
   clear e h1 hle c0 c6 c12 f6 f12 f18 w6 w12 w18
   refine eN Tryz.func229 rfl Tryz.ntmps229 fun hO=>?_
   repeat' first | refine st ?_ | (refine ca ?_;apply hck) | (refine br ?_ ?_<;>intro hb) | refine sd ?_ | apply aB | (apply aL;(· decide +kernel)) | refine bd ?_ ?_ | (refine cd ?_;apply hck) | fail
   refine fR Tryz.results229 ?_
   exact h
  have d1:decide ((cp:Int)<128)=false:=by simp;omega
  by_cases h2:cp<2048
  ·have d2:decide ((cp:Int)<2048)=true:=by simp;omega
   have e:mf cp=[192+cp / 2 ^ 6,128+cp / 2 ^ 0 % 64]:=by unfold mf;rw [if_neg h1,if_pos h2];simp
   rw [e] at h
   have h:R (.ret (.str [aD (192+cp / 2 ^ 6),aD (128+cp / 2 ^ 0 % 64)])) S:=h
   have hx:cp / 2 ^ 6<32:=by omega
   have o:=ES _ hx
   rw [iG (show cp / 2 ^ 6<256 by omega)] at w6
   simp only [a6] at o
   clear e h1 h2 hle c6 c12 f12 f18 w0' w12 w18
   refine eN Tryz.func229 rfl Tryz.ntmps229 fun hO=>?_
   repeat' first | refine st ?_ | (refine ca ?_;first | apply hck | (apply c0;(· simp only [go_sem, *];try rfl))) | (refine br ?_ ?_<;>intro hb) | refine sd ?_ | apply aB | (apply aL;(· decide +kernel)) | refine bd ?_ ?_ | (refine cd ?_;first | apply hck | (apply c0;(· simp only [go_sem, *];try rfl))) | fail
   refine fR Tryz.results229 ?_
   exact h
  have d2:decide ((cp:Int)<2048)=false:=by simp;omega
  by_cases h3:cp<65536
  ·have d3:decide ((cp:Int)<65536)=true:=by simp;omega
   have e:mf cp=[224+cp / 2 ^ 12,128+cp / 2 ^ 6 % 64,128+cp / 2 ^ 0 % 64]:=by unfold mf;rw [if_neg h1,if_neg h2,if_pos h3];simp
   rw [e] at h
   have h:R (.ret (.str [aD (224+cp / 2 ^ 12),aD (128+cp / 2 ^ 6 % 64),aD (128+cp / 2 ^ 0 % 64)])) S:=h
   have hx:cp / 2 ^ 12<16:=by omega
   have o:=ER _ hx
   rw [iG (show cp / 2 ^ 12<256 by omega)] at w12
   simp only [a6] at o
   clear e h1 h2 h3 hle c12 f6 f18 w0' w6 w18
   refine eN Tryz.func229 rfl Tryz.ntmps229 fun hO=>?_
   repeat' first | refine st ?_ | (refine ca ?_;first | apply hck | (apply c0;(· simp only [go_sem, *];try rfl)) | (apply c6;(· simp only [go_sem, *];try rfl))) | (refine br ?_ ?_<;>intro hb) | refine sd ?_ | apply aB | (apply aL;(· decide +kernel)) | refine bd ?_ ?_ | (refine cd ?_;first | apply hck | (apply c0;(· simp only [go_sem, *];try rfl)) | (apply c6;(· simp only [go_sem, *];try rfl))) | fail
   refine fR Tryz.results229 ?_
   exact h
  have d3:decide ((cp:Int)<65536)=false:=by simp;omega
  have e:mf cp=[240+cp / 2 ^ 18,128+cp / 2 ^ 12 % 64,128+cp / 2 ^ 6 % 64,128+cp / 2 ^ 0 % 64]:=by unfold mf;rw [if_neg h1,if_neg h2,if_neg h3];simp
  rw [e] at h
  have h:R (.ret (.str [aD (240+cp / 2 ^ 18),aD (128+cp / 2 ^ 12 % 64),aD (128+cp / 2 ^ 6 % 64),aD (128+cp / 2 ^ 0 % 64)])) S:=h
  have hx:cp / 2 ^ 18<8:=by omega
  have o:=EP _ hx
  rw [iG (show cp / 2 ^ 18<256 by omega)] at w18
  simp only [a6] at o
  clear e h1 h2 h3 hle f6 f12 w0' w6 w12
  refine eN Tryz.func229 rfl Tryz.ntmps229 fun hO=>?_
  repeat' first | refine st ?_ | (refine ca ?_;first | apply hck | (apply c0;(· simp only [go_sem, *];try rfl)) | (apply c6;(· simp only [go_sem, *];try rfl)) | (apply c12;(· simp only [go_sem, *];try rfl))) | (refine br ?_ ?_<;>intro hb) | refine sd ?_ | apply aB | (apply aL;(· decide +kernel)) | refine bd ?_ ?_ | (refine cd ?_;first | apply hck | (apply c0;(· simp only [go_sem, *];try rfl)) | (apply c6;(· simp only [go_sem, *];try rfl)) | (apply c12;(· simp only [go_sem, *];try rfl))) | fail
  refine fR Tryz.results229 ?_
  exact h
def Eg (w0:World):Prop:=Lib.TabIs Tryz.prog w0 "internal/strconv.uint64pow10" .u64 Lib.pow10Tab
theorem itoa (w0:World) (hT:Eg w0) (S:List ax) (n:Int) (h1 : -9223372036854775808≤n) (h2:n≤9223372036854775807) (R:Rt) (h:R (.ret (.str (fJ n))) S):ao Tryz.prog w0 86 [.int .i64 n] S R:=by
 refine ao.lib (vs:=[.int .i64 n]) (v:=.str (fJ n)) (Go.Proofs.enters_of Tryz.func86 (by kernel_rfl) rfl) rfl rfl ?_ h
 intro w hb
 refine(Go.Proofs.Any.strconv_Itoa Go.Proofs.Tryz.laysM171 n h1 h2 w (Lib.tabBelow_of_tabIs hT w hb)).mono ?_
 rintro e w' ⟨rfl,k,os,rfl⟩
 exact⟨rfl,Lib.below_grow _ w (aP _) k os⟩
theorem po (w0:World) (S:List ax) (a:Nat) (v:AV) (ha:S[a]? = some (.cells [.nilp,v] (some 90))) (hv:v.lt S.length=true) (hal:a<S.length) (R:Rt) (h:R (.ret (.tup [])) (S.set a (.cells [.own a 0,v] (some 90)))) :
  ao Tryz.prog w0 87 [.own a 0] S R:=by
 refine eN Tryz.func87 rfl Tryz.ntmps87 fun hO=>?_
 repeat' first | refine st ?_ | (refine br ?_ ?_<;>intro hb) | fail
 refine Av (f:=176) ss rfl rfl (fun c w=>?_) rfl ss ?_
 ·rw [run_callFunc_extern Tryz.func176 (by kernel_rfl) (by kernel_rfl) (by kernel_rfl) (by kernel_rfl),Lib.run_noEscape];rfl
 simp only [putA]
 repeat' first | refine st ?_ | (refine br ?_ ?_<;>intro hb) | fail
 refine El Tryz.results87 ?_ ?_ ?_
 ·exact bw.set hO (by simp [ax.ltB,ltL,AV.lt,hv,hal])
 ·simp
 ·exact h
theorem pn (w0:World) (S:List ax) (a:Nat) (v:AV) (ha:S[a]? = some (.cells [.own a 0,v] (some 90))) (R:Rt) (h:R (.ret (.tup [])) S) :
  ao Tryz.prog w0 87 [.own a 0] S R:=by
 refine eN Tryz.func87 rfl Tryz.ntmps87 fun hO=>?_
 repeat' first | refine st ?_ | (refine br ?_ ?_<;>intro hb) | fail
 refine fE Tryz.results87 ?_
 exact h
theorem b8 {α:Type _} (l:List α):l.all (fun _=>true)=true:=by simp
theorem fu {ops:Array Oper}{i p:Nat}{q:List Nat}{prot:List (Nat × List Nat)}{S S':List ax} (hp:kx ops i p=false) (h:dt ops i prot S S'):dt ops i ((p,q)::prot) S S':=mi hp h
def Gz (S:List ax) (a g i:Nat) (ad:AV) (bs:List UInt8):Prop :=
 S[a]? = some (.cells [ad,.sown g i bs.length] (some 90))∧S[g]? = some (.arr 5 1 0 i (bs.map iJ))∧(ad=.nilp∨ad=.own a 0)
theorem sy (w0:World) (S:List ax) (a g i:Nat) (ad:AV) (bs s:List UInt8) (hb:Gz S a g i ad bs) (hlen:(bs.length+s.length) * 1≤140737488355328) (R:Rt)
  (h:R (.ret (.tup [.int .i64 s.length,.inil])) ((S.set g (.arr 5 1 0 (i+1) ((bs++s).map iJ))).set a (.cells [.own a 0,.sown g (i+1) (bs.length+s.length)] (some 90)))) :
  ao Tryz.prog w0 40 [.own a 0,.str s] S R:=by
 obtain⟨ha,hg,had⟩:=hb
 have hal:=(ab.1 ha).1
 have hgl:=(ab.1 hg).1
 have hne:a≠g:=by rintro rfl;rw [ha] at hg;cases hg
 obtain⟨S1,hS1⟩:∃ S1,S.set a (.cells [.own a 0,.sown g i bs.length] (some 90))=S1:=⟨_,rfl⟩
 have hck:∀ R:df→List ax→Prop,R (.ret (.tup [])) S1→ao Tryz.prog w0 87 [.own a 0] S R:=by
  intro R hR
  rcases had with rfl | rfl
  ·exact po w0 S a _ ha (by simpa [AV.lt] using hgl) hal R (hS1▸hR)
  ·have:S.set a (.cells [.own a 0,.sown g i bs.length] (some 90))=S:=eK ha
   rw [this] at hS1
   exact pn w0 S a _ ha R (hS1▸hR)
 have h1:S1[a]? = some (.cells [.own a 0,.sown g i bs.length] (some 90)):=by rw [← hS1];simp [hal]
 have h2:S1[g]? = some (.arr 5 1 0 i (bs.map iJ)):=by rw [← hS1,bl hne];exact hg
 have hl1:S1.length=S.length:=by rw [← hS1];simp
 have hbl:(bs.map iJ).length=bs.length:=by simp
 have h3:∀ B,(S1.set g B)[a]? = some (.cells [.own a 0,.sown g i bs.length] (some 90)):=by intro B;rw [bl (Ne.symm hne)];exact h1
 have hfin:∀ B C,(S1.set g B).set a C=(S.set g B).set a C:=by
  intro B C
  rw [← hS1,List.set_comm _ _ hne,List.set_set]
 have Hfin:=ae hfin
 have Hal:=ae (dw hal hgl)
 clear hg had hal hgl hne hS1 hfin
 refine eN Tryz.func40 rfl Tryz.ntmps40 fun hO=>?_
 repeat' first | apply gp | apply eT | apply dU | apply eU | apply gq | apply cG | apply gu | apply cI | apply ct | apply dd | apply cH | apply cr | apply bU | apply gr | (apply bV;(· rfl)) | (apply da;simp only [bt]) | (apply dN;(· rfl);(· simp only [go_sem, *,be,aN,b8];try rfl);(· rfl);simp only [putA]) | (apply eZ;simp only [putA]) | apply de | (apply dT [];(· simp only [go_sem, *,be,aN,b8];try rfl);(· rfl);(· simp only [go_sem, *,be,aN,b8];try rfl);(· rfl);(iterate 2 (· simp only [go_sem, *,be,aN,b8];try rfl));(first | apply hck);simp only [bK,putA]) | (apply dP;(· simp only [go_sem, *,be,aN,b8];try rfl);(· rfl);(· simp only [go_sem, *,be,aN,b8];try rfl)) | (apply dF;(iterate 2 (· simp only [go_sem, *,be,aN,b8];try rfl));(· rfl);simp only [putA]) | (apply cq;(· simp only [go_sem, *,be,aN,b8];try rfl);(· rfl);simp only [putA]) | (apply dQ;(· simp only [go_sem, *,be,aN,b8];try rfl)) | (apply dS;(· simp only [go_sem, *,be,aN,b8];try rfl)) | (apply db;(· rfl);(fail_if_success (focus (show _=some true;(· simp only [go_sem, *,be,aN,b8];try rfl))));(· simp only [go_sem, *,be,aN,b8];try rfl);all_goals (intro hb;try simp only [az,aG] at hb)) | (apply dR;(· simp only [go_sem, *,be,aN,b8];try rfl);all_goals (intro hb;try simp only [az,aG] at hb)) | fail
 refine BP Tryz.results40 ?_ ?_ ?_
 ·rw [Hfin.out]
  refine bw.set (bw.set hO ?_) ?_
  ·have h4:ltL S.length (bE iJ bs++bE iJ s)=true:=by rw [← bg];exact se _ _
   exact h4
  ·have:=Hal.out;simp [ax.ltB,ltL,AV.lt,this.1,this.2]
 ·simp [hl1]
 ·rw [Hfin.out];rw [bg] at h;exact h
theorem qC (w0:World) (S:List ax) (a g i:Nat) (ad:AV) (bs:List UInt8) (hb:Gz S a g i ad bs) (hpos:1≤bs.length) (R:Rt)
  (h:R (.ret (.str bs)) (S.set g .dead)):ao Tryz.prog w0 41 [.own a 0] S R:=by
 obtain⟨ha,hg,had⟩:=hb
 have hby:=t7 bs
 have hok8:=tj bs
 have hbl:(bs.map iJ).length=bs.length:=by simp
 have hne:a≠g:=by rintro rfl;rw [ha] at hg;cases hg
 have h3:∀ B,(S.set g B)[a]? = some (.cells [ad,.sown g i bs.length] (some 90)):=by intro B;rw [bl (Ne.symm hne)];exact ha
 clear hne
 clear had
 refine eN Tryz.func41 rfl Tryz.ntmps41 fun hO=>?_
 repeat' first | refine st ?_ | (refine br ?_ ?_<;>intro hb) | refine sd ?_ | apply aB | (apply aL;(· decide +kernel)) | refine bd ?_ ?_ | fail
 ·repeat' first | exact aB | refine fY ?_ | refine fu (by decide +kernel) ?_ | refine ro ((h3 _).trans ha.symm) ?_
 refine BP Tryz.results41 ?_ ?_ ?_
 ·exact bw.set hO rfl
 ·simp
 ·exact h
def e9 (l:List Nat):List UInt8:=l.flatMap pO
theorem pz (w0:World) (S:List ax) (a:Nat) (ha:S[a]? = some (.cells [.nilp,.snil] (some 90))) (R:Rt) (h:R (.ret (.str [])) S):ao Tryz.prog w0 41 [.own a 0] S R:=by
 refine eN Tryz.func41 rfl Tryz.ntmps41 fun hO=>?_
 repeat' first | refine st ?_ | (refine br ?_ ?_<;>intro hb) | refine sd ?_ | apply aB | (apply aL;(· decide +kernel)) | refine bd ?_ ?_ | fail
 all_goals refine fR Tryz.results41 ?_
 all_goals exact h
theorem JV (w0:World) (X:List ax) (ad:AV) (i:Nat) (bs s:List UInt8) (had:ad=.nilp∨ad=.own X.length 0) (hlen:(bs.length+s.length) * 1≤140737488355328) (R:Rt)
  (h:R (.ret (.tup [.int .i64 s.length,.inil])) (X++[ax.cells [.own X.length 0,.sown (X.length+1) (i+1) (bs++s).length] (some 90),.arr 5 1 0 (i+1) ((bs++s).map iJ)])) :
  ao Tryz.prog w0 40 [.own X.length 0,.str s] (X++[ax.cells [ad,.sown (X.length+1) i bs.length] (some 90),.arr 5 1 0 i (bs.map iJ)]) R:=by
 refine sy w0 _ X.length (X.length+1) i ad bs s ⟨by simp,by rw [aw (by omega)];simp,had⟩ hlen R ?_
 have e:((X++[ax.cells [ad,.sown (X.length+1) i bs.length] (some 90),.arr 5 1 0 i (bs.map iJ)]).set (X.length+1) (.arr 5 1 0 (i+1) ((bs++s).map iJ))).set X.length (.cells [.own X.length 0,.sown (X.length+1) (i+1) (bs.length+s.length)] (some 90)) =
   X++[ax.cells [.own X.length 0,.sown (X.length+1) (i+1) (bs++s).length] (some 90),.arr 5 1 0 (i+1) ((bs++s).map iJ)]:=by
  rw [cZ _ _ (by omega),cZ _ _ (by omega)]
  simp
 rw [e]
 exact h
theorem KD (w0:World) (X:List ax) (ad:AV) (i:Nat) (bs:List UInt8) (had:ad=.nilp∨ad=.own X.length 0) (hpos:1≤bs.length) (R:Rt)
  (h:R (.ret (.str bs)) (X++[ax.cells [ad,.sown (X.length+1) i bs.length] (some 90),.dead])) :
  ao Tryz.prog w0 41 [.own X.length 0] (X++[ax.cells [ad,.sown (X.length+1) i bs.length] (some 90),.arr 5 1 0 i (bs.map iJ)]) R:=by
 refine qC w0 _ X.length (X.length+1) i ad bs ⟨by simp,by rw [aw (by omega)];simp,had⟩ hpos R ?_
 rw [cZ _ _ (by omega)]
 simpa using h
theorem sW (cp:Nat):1≤(pO cp).length∧(pO cp).length≤4:=by
 unfold pO rh mf
 repeat' split
 all_goals simp
theorem p7 (l:List Nat):l.length≤(e9 l).length∧(e9 l).length≤4 * l.length:=by
 induction l with
 | nil=>simp [e9]
 | cons c l ih =>
  have:=sW c
  unfold e9 at ih ⊢
  rw [kW,ah,aI];omega
theorem uD {l:List Nat}{k c:Nat} (h:l[k]? = some c):e9 (l.take (k+1))=e9 (l.take k)++pO c:=by
 unfold e9
 rw [eP,h]
 simp
theorem Eo (w0:World) (S:List ax) (l:List Nat) (hb:∀ c∈l,c<4294967296) (hl:l.length≤100000000) (R:Rt) (h:R (.ret (.str (e9 l))) S):ao Tryz.prog w0 187 [.sval false (l.map Co)] S R:=by
 by_cases hn:l=[]
 ·subst hn
  have h:R (.ret (.str [])) S:=h
  have e0:decide ((0:Int)<((0:Nat):Int))=false:=rfl
  have hbe:=fun S' ha=>pz w0 S' S.length ha
  clear hb hl
  refine eN Tryz.func187 rfl Tryz.ntmps187 fun hO=>?_
  repeat' first | refine st ?_ | (refine ca ?_;(apply hbe;(· simp only [go_sem, *];try rfl))) | (refine br ?_ ?_<;>intro hb) | apply cR | apply fO | fail
  refine fR Tryz.results187 ?_
  exact h
 ·have hpos:0<l.length:=by
   cases l with
   | nil=>exact absurd rfl hn
   | cons a r=>simp
  refine eN Tryz.func187 rfl Tryz.ntmps187 fun hO=>?_
  repeat' first | refine st ?_ | (refine br ?_ ?_<;>intro hb) | fail
  refine l5 (a:=S.length) (j:=1) 5 1 ss ss (by decide) ?_
  simp only [go_sem, *]
  refine eJ (fun (p:Nat × AV) env S'=>p.1≤l.length∧(p.2=.nilp∨p.2=.own S.length 0)∧env 1000000=.dfr []∧env 3=.own S.length 0∧env 6=.sval false (l.map Co)∧env 7=.int .i64 l.length∧env 8=.int .i64 (p.1:Int) ∧
   S'=S++[ax.cells [p.2,.sown (S.length+1) p.1 (e9 (l.take p.1)).length] (some 90),.arr 5 1 0 p.1 ((e9 (l.take p.1)).map iJ)]) (fun p=>l.length - p.1) (0,.nilp) ?_ ?_
  ·exact⟨bx _,.inl rfl,ss,ss,ss,ss,ss,rfl⟩
  ·rintro⟨k,ad⟩ env S' ⟨hk,had,e0,e3,e6,e7,e8,rfl⟩ IH
   have HI:=ae IH
   have H:=ae h
   have Hb:=ae hb
   have Had:=ae had
   have Hpos:=ae hpos
   clear IH h hb had hn hpos
   have ht:=p7 (l.take k)
   have htk:(l.take k).length≤k:=Ap _ _
   simp only at hk e8
   by_cases hlt:k<l.length
   ·obtain⟨c,hx⟩:∃ c,l[k]? = some c:=⟨_,al hlt⟩
    have h1:decide ((k:Int)<(l.length:Int))=true:=by simpa using hlt
    have hw:af.wrap ((k:Int)+1)=(k:Int)+1:=au _ (by omega)
    have hpl:=sW c
    have hput:=fun S'=>FU w0 S' c (Hb.out c (ar hx))
    have hws:=JV w0 S ad k (e9 (l.take k)) (pO c) Had.out (by omega)
    rw [← uD hx] at hws
    have Hlt:=ae hlt
    clear hlt hl hk ht htk hpl
    repeat' first | apply gp | apply eT | apply dU | apply eU | apply gq | apply cG | apply gu | apply cI | apply ct | apply dd | apply cH | apply cr | apply bU | apply gr | (apply bV;(· rfl)) | (apply da;simp only [bt]) | (apply dN;(· rfl);(· simp only [go_sem, *,Co];try rfl);(· rfl);simp only [putA]) | (apply eZ;simp only [putA]) | apply de | (apply dT [];(· simp only [go_sem, *,Co];try rfl);(· rfl);(· simp only [go_sem, *,Co];try rfl);(· rfl);(iterate 2 (· simp only [go_sem, *,Co];try rfl));(first | apply hput | apply hws);simp only [bK,putA]) | (apply dP;(· simp only [go_sem, *,Co];try rfl);(· rfl);(· simp only [go_sem, *,Co];try rfl)) | (apply dF;(iterate 2 (· simp only [go_sem, *,Co];try rfl));(· rfl);simp only [putA]) | (apply cq;(· simp only [go_sem, *,Co];try rfl);(· rfl);simp only [putA]) | (apply dQ;(· simp only [go_sem, *,Co];try rfl)) | (apply dS;(· simp only [go_sem, *,Co];try rfl)) | (apply db;(· rfl);(fail_if_success (focus (show _=some true;(· simp only [go_sem, *,Co];try rfl))));(· simp only [go_sem, *,Co];try rfl);all_goals (intro hb;try simp only [az,aG] at hb)) | (apply dR;(· simp only [go_sem, *,Co];try rfl);all_goals (intro hb;try simp only [az,aG] at hb)) | fail
    refine HI.out (k+1,.own S.length 0) _ _ (by have:=Hlt.out;simp only;omega) ⟨Hlt.out,.inr rfl, ?_, ?_, ?_, ?_, ?_,rfl⟩
    ·(simp only [go_sem, *];try rfl)
    ·(simp only [go_sem, *];try rfl)
    ·(simp only [go_sem, *];try rfl)
    ·(simp only [go_sem, *];try rfl)
    ·(simp only [go_sem, *];try rfl)
   ·have hkl:k=l.length:=by omega
    have h1:decide ((k:Int)<(l.length:Int))=false:=by simpa using hlt
    have htl:e9 (l.take k)=e9 l:=by rw [hkl,bk]
    have hp1:1≤(e9 l).length:=by have:=p7 l;have:=Hpos.out;omega
    rw [htl]
    have hbs:=KD w0 S ad k (e9 l) Had.out hp1
    clear hlt hl hk ht htk htl hkl hp1
    repeat' first | refine st ?_ | (refine ca ?_;apply hbs) | (refine br ?_ ?_<;>intro hb) | fail
    refine fR Tryz.results187 ?_
    exact H.out
def lC (s:List Nat):List Nat × List Nat:=s.foldl (fun q b=>((dj q.1 b).1,q.2++(dj q.1 b).2)) ([],[])
theorem oZ:∀ (s:List Nat) (q:List Nat × List Nat),(s.foldl (fun q b=>((dj q.1 b).1,q.2++(dj q.1 b).2)) q).2++jc (s.foldl (fun q b=>((dj q.1 b).1,q.2++(dj q.1 b).2)) q).1=q.2++kL q.1 s
 | [],q=>rfl
 | b::s,q=>by
  rw [ee,oZ s]
  simp only [kL,aK]
theorem px (s:List Nat):zR s=(lC s).2++jc (lC s).1:=by
 have:=oZ s ([],[])
 rw [cU] at this
 exact this.symm
theorem nY {s:List Nat}{i b:Nat} (h:s[i]? = some b):lC (s.take (i+1))=((dj (lC (s.take i)).1 b).1,(lC (s.take i)).2++(dj (lC (s.take i)).1 b).2):=by
 unfold lC
 rw [eP,h]
 simp only [iK,CJ,ee,List.foldl_nil]
theorem oC {p:List Nat}{b:Nat} (hp:∀ x∈p,x<256) (hb:b<256):∀ x∈(dj p b).1,x<256:=by
 have ha:∀ x∈p++[b],x<256:=by
  intro x hx
  rcases bv.1 hx with hx | hx
  ·exact hp x hx
  ·rw [aZ.1 hx];exact hb
 unfold dj
 split
 ·simp
 ·split
  ·exact ha
  ·split
   ·simp
   ·unfold hU
    split
    ·simp
    ·split
     ·intro x hx;rw [aZ.1 hx];exact hb
     ·simp
theorem Eu (s:List Nat) (hs:∀ b∈s,b<256):∀ i,fm (lC (s.take i)).1=true∧∀ x∈(lC (s.take i)).1,x<256:=by
 intro i
 induction i with
 | zero=>exact⟨rfl,by simp [lC]⟩
 | succ i ih =>
  cases hx:s[i]? with
  | none =>
   rw [List.getElem?_eq_none_iff] at hx
   rw [cA (by omega)] at ih ⊢
   exact ih
  | some b =>
   rw [nY hx]
   exact⟨nj _ _,oC ih.2 (hs b (ar hx))⟩
theorem wq {p:List Nat} (h:eM p=2):iY p<2097152:=by
 match p with
 | []=>decide
 | [a] =>
  obtain⟨h1,_⟩:=zk h
  rcases nw a with⟨h2,hF,hL⟩ | ⟨h2,hF,hL⟩ | ⟨h2,h3,hF,hL⟩ | ⟨h2,h3,hF,hL⟩ | ⟨h2,h3,hF,hL⟩ | ⟨h2,h3,hF,hL⟩ | ⟨h2,h3,hF,hL⟩
  all_goals (rw [hL] at h1;simp at h1)
  simp [iY];omega
 | [a,b]=>simp [iY];omega
 | [a,b,c]=>simp [iY];omega
 | [a,b,c,d]=>simp [iY];omega
 | a::b::c::d::e::r =>
  obtain⟨h1,_⟩:=zk h
  rcases nw a with⟨h2,hF,hL⟩ | ⟨h2,hF,hL⟩ | ⟨h2,h3,hF,hL⟩ | ⟨h2,h3,hF,hL⟩ | ⟨h2,h3,hF,hL⟩ | ⟨h2,h3,hF,hL⟩ | ⟨h2,h3,hF,hL⟩
  all_goals (rw [hL] at h1;simp at h1)
theorem sK (b:Nat):(∀ c∈(hU b).2,c<2097152)∧(hU b).2.length≤1:=by
 unfold hU
 split
 ·next h=>exact⟨by intro c hc;rw [aZ.1 hc];exact wq h,by simp⟩
 ·split<;>simp
theorem jC (p:List Nat) (b:Nat):(∀ c∈(dj p b).2,c<2097152)∧(dj p b).2.length≤2:=by
 unfold dj
 split
 ·next h=>exact⟨by intro c hc;rw [aZ.1 hc];exact wq h,by simp⟩
 ·split
  ·simp
  ·split
   ·simp
   ·have:=sK b
    refine⟨?_,by simp;omega⟩
    intro c hc
    rcases bA.1 hc with rfl | hc
    ·decide
    ·exact this.1 c hc
theorem qA:∀ (s p:List Nat),(∀ c∈kL p s,c<2097152)∧(kL p s).length≤2 * s.length+1
 | [],p=>by
  unfold kL jc
  split<;>simp
 | b::s,p=>by
  have h1:=jC p b
  have h2:=qA s (dj p b).1
  unfold kL
  refine⟨?_,by rw [ah,aI];omega⟩
  intro c hc
  rcases bv.1 hc with hc | hc
  ·exact h1.1 c hc
  ·exact h2.1 c hc
def dl (s:List UInt8):List Nat:=zR (s.map aR)
theorem qB (s:List UInt8):(∀ c∈dl s,c<2097152)∧(dl s).length≤2 * s.length+1:=by
 have:=qA (s.map aR) []
 rw [aY] at this
 exact this
theorem yA (s:List Nat):∀ m i,i+m=s.length→∃ z,(lC s).2=(lC (s.take i)).2++z
 | 0,i,h=>⟨[],by rw [cA (by omega),aE]⟩
 | m+1,i,h=>by
  obtain⟨z,hz⟩:=yA s m (i+1) (by omega)
  have hx:s[i]? = some s[i]:=al (by omega)
  rw [nY hx] at hz
  exact⟨(dj (lC (s.take i)).1 s[i]).2++z,by rw [hz,aK]⟩
theorem BX {s:List UInt8}{i j c:Nat}{b:UInt8} (hx:s[i]? = some b) (hj:(dj (lC ((s.map aR).take i)).1 b.toNat).2[j]? = some c):(dl s)[(lC ((s.map aR).take i)).2.length+j]? = some c:=by
 have hi:=(ab.1 hx).1
 obtain⟨z,hz⟩:=yA (s.map aR) (s.length - (i+1)) (i+1) (by simp;omega)
 have qq:(s.map aR)[i]? = some b.toNat:=by rw [aF,hx];rfl
 rw [nY qq] at hz
 have hjl:=(ab.1 hj).1
 unfold dl
 rw [px,hz]
 simp only [aK]
 rw [aw (by omega),x6,ap hjl]
 exact hj
theorem zS {s:List UInt8}{j c:Nat} (hj:(jc (lC (s.map aR)).1)[j]? = some c):(dl s)[(lC (s.map aR)).2.length+j]? = some c:=by
 unfold dl
 rw [px,aw (by omega),x6]
 exact hj
def CE (s:List UInt8):AV:=.fn (.func 268) [] [.pro [.str s]]
theorem Ep (w0:World) (S:List ax) (s:List UInt8) (R:Rt) (h:R (.ret (CE s)) S):ao Tryz.prog w0 228 [.str s] S R:=by
 refine eN Tryz.func228 rfl Tryz.ntmps228 fun hO=>?_
 repeat' first | refine st ?_ | (refine br ?_ ?_<;>intro hb) | fail
 refine fR Tryz.results228 ?_
 exact h
theorem C1 (w0:World) (s:List UInt8) (hs:s.length≤100000000) (a n:Nat) (ha:decide (a<n)=true) (I:Nat→List ax→Prop) (hI:∀ k S,I k S→S.length=n∧bw S)
  (hround:∀ k S c,I k S→(dl s)[k]? = some c→∀ (E:List ax) (R':df→List ax→Prop),(∀ S2 E2,I (k+1) S2→R' (.ret (.bool true)) (S2++(E++E2)))→YA Tryz.prog w0 a [.int .i64 c] (S++E) R')
  (S:List ax) (h0:I 0 S) (R:Rt) (h:∀ S',I (dl s).length S'→R (.ret (.tup [])) S') :
  ao Tryz.prog w0 268 [.yld a,.pro [.str s]] S R:=by
 have hn:=(hI _ _ h0).1
 refine eN Tryz.func268 rfl Tryz.ntmps268 fun hO=>?_
 repeat' first | refine st ?_ | (refine br ?_ ?_<;>intro hb) | fail
 have hall:∀ b∈s.map aR,b<256:=by
  intro b hb
  obtain⟨x,_,rfl⟩:=aH.1 hb
  exact x.toNat_lt
 have hst:=Eu (s.map aR) hall
 refine eJ (fun (p:Nat × AV) env S'=>p.1≤s.length∧(p.2=.snil∧(lC ((s.map aR).take p.1)).1=[]∨p.2=.sval false ((lC ((s.map aR).take p.1)).1.map By))∧env 1000000=.dfr []∧env 0=.yld a∧env 1=.pro [.str s]∧env 3=p.2∧env 12=.int .i64 s.length∧env 13=.int .i64 (p.1:Int)∧I (lC ((s.map aR).take p.1)).2.length S') (fun p=>s.length - p.1) (0,.snil) ?_ ?_
 ·exact⟨bx _,.inl ⟨rfl,rfl⟩,ss,ss,ss,ss,ss,ss,h0⟩
 ·rintro⟨i,pv⟩ env S' ⟨hi,hpv,e0,ey,e1,e3,e12,e13,hIi⟩ IH
  have HI:=ae IH
  have HIi:=ae hIi
  have Hn:=ae hn
  have Hr:=ae hround
  have HJ:=ae hI
  have H:=ae h
  have Hst:=ae hst
  clear IH hIi hn hround hI h hst hall h0
  simp only at hi e13 e3 hpv
  by_cases hlt:i<s.length
  ·obtain⟨b,hx⟩:∃ b,s[i]? = some b:=⟨_,al hlt⟩
   have h1:decide ((i:Int)<(s.length:Int))=true:=by simpa using hlt
   have hw:af.wrap ((i:Int)+1)=(i:Int)+1:=au _ (by omega)
   have qq:(s.map aR)[i]? = some b.toNat:=by rw [aF,hx];rfl
   have hsu:=nY qq
   have hca:=fun j c=>BX (j:=j) (c:=c) hx
   have hstep:=fun S'=>Cu w0 S' (lC ((s.map aR).take i)).1 b.toNat b.toNat_lt (Hst.out i).1 (Hst.out i).2
   have hq2:=(jC (lC ((s.map aR).take i)).1 b.toNat).2
   obtain⟨q,hq⟩:∃ q,dj (lC ((s.map aR).take i)).1 b.toNat=q:=⟨_,rfl⟩
   obtain⟨D,hD⟩:∃ D,(lC ((s.map aR).take i)).2=D:=⟨_,rfl⟩
   obtain⟨X,hX⟩:∃ X,(lC ((s.map aR).take i)).1=X:=⟨_,rfl⟩
   rw [hq,hX] at hstep
   rw [hq] at hca hsu hq2
   rw [hD] at hca hsu
   rw [hX] at hpv
   obtain⟨q1,q2⟩:=q
   unfold ls at hstep
   simp only at hstep hca hsu hq2
   have HIi2:=ae (show I D.length S' from hD▸HIi.out)
   have Hca:=ae hca
   have Hsu:=ae hsu
   have Hlt:=ae hlt
   clear HIi Hst hca hsu hX hD hq qq hlt hi
   have Hstep:=ae hstep
   clear hstep
   rcases hpv with⟨rfl,hX0⟩ | rfl
   all_goals
    try subst hX0
    repeat' first | refine st ?_ | (refine ca ?_;apply Hstep.out) | (refine br ?_ ?_<;>intro hb) | fail
    refine eJ (fun (j:Nat) env' S2=>j≤q2.length∧env' 1000000=.dfr []∧env' 0=.yld a∧env' 1=.pro [.str s]∧env' 3=.sval false (q1.map By)∧env' 12=.int .i64 s.length∧env' 13=.int .i64 (i:Int)∧env' 25=.sval false (q2.map Co)∧env' 26=.int .i64 q2.length∧env' 27=.int .i64 (j:Int)∧I (D.length+j) S2) (fun j=>q2.length - j) 0 ?_ ?_
    ·exact⟨bx _,ss,ss,ss,ss,ss,ss,ss,ss,ss,HIi2.out⟩
    ·clear e0 ey e1 e3 e12 e13
     rintro j env2 S2 ⟨hj,f0,fy,f1,f3,f12,f13,f25,f26,f27,hIj⟩ JH
     have HH:=ae JH
     have HIj:=ae hIj
     clear JH hIj
     by_cases hjl:j<q2.length
     ·obtain⟨c,hc⟩:∃ c,q2[j]? = some c:=⟨_,al hjl⟩
      have j1:decide ((j:Int)<(q2.length:Int))=true:=by simpa using hjl
      have hwj:af.wrap ((j:Int)+1)=(j:Int)+1:=au _ (by omega)
      have Hjl:=ae hjl
      clear hjl hj hq2
      repeat' first | apply gp | apply eT | apply dU | apply eU | apply gq | apply cG | apply gu | apply cI | apply ct | apply dd | apply cH | apply cr | apply bU | apply gr | (apply bV;(· rfl)) | (apply da;simp only [bt]) | (apply dN;(· rfl);(· simp only [go_sem, *,Co];try rfl);(· rfl);simp only [putA]) | (apply eZ;simp only [putA]) | apply de | (apply dP;(· simp only [go_sem, *,Co];try rfl);(· rfl);(· simp only [go_sem, *,Co];try rfl)) | (apply dF;(iterate 2 (· simp only [go_sem, *,Co];try rfl));(· rfl);simp only [putA]) | (apply cq;(· simp only [go_sem, *,Co];try rfl);(· rfl);simp only [putA]) | (apply dQ;(· simp only [go_sem, *,Co];try rfl)) | (apply dS;(· simp only [go_sem, *,Co];try rfl)) | (apply db;(· rfl);(fail_if_success (focus (show _=some true;(· simp only [go_sem, *,Co];try rfl))));(· simp only [go_sem, *,Co];try rfl);all_goals (intro hb;try simp only [az,aG] at hb)) | (apply dR;(· simp only [go_sem, *,Co];try rfl);all_goals (intro hb;try simp only [az,aG] at hb)) | fail
      apply vO
      ·(simp only [go_sem, *];try rfl)
      ·rfl
      ·(simp only [go_sem, *];try rfl)
      ·rfl
      ·(simp only [go_sem, *];try rfl)
      have hy:=Hr.out (D.length+j) S2 c HIj.out (Hca.out j c hc) []
      simp only [aE,cU] at hy
      refine hy _ ?_
      intro S3 E3 hI3
      have hO3:=HJ.out _ _ hI3
      simp only [bK,putA]
      repeat' first | refine st ?_ | (refine br ?_ ?_<;>intro hb) | fail
      refine qO hO3.2 0 [0,1,3,12,13,25,26,27] (Hn.out.trans hO3.1.symm) ss ss ss ?_
      refine HH.out (j+1) _ _ (by have:=Hjl.out;omega) ⟨Hjl.out, ?_, ?_, ?_, ?_, ?_, ?_, ?_, ?_, ?_, ?_⟩
      ·(simp only [go_sem, *];try rfl)
      ·(simp only [go_sem, *];try rfl)
      ·(simp only [go_sem, *];try rfl)
      ·(simp only [go_sem, *];try rfl)
      ·(simp only [go_sem, *];try rfl)
      ·(simp only [go_sem, *];try rfl)
      ·(simp only [go_sem, *];try rfl)
      ·(simp only [go_sem, *];try rfl)
      ·(simp only [go_sem, *];try rfl)
      ·rw [show D.length+(j+1)=D.length+j+1 from rfl]
       simpa only [co,aE] using hI3
     ·have j1:decide ((j:Int)<(q2.length:Int))=false:=by simpa using hjl
      have hje:j=q2.length:=by omega
      have Hje:=ae hje
      clear hjl hj hje hq2
      repeat' first | refine st ?_ | (refine br ?_ ?_<;>intro hb) | fail
      refine HI.out (i+1,.sval false (q1.map By)) _ _ (by have:=Hlt.out;simp only;omega) ⟨Hlt.out,.inr (by simp only;rw [Hsu.out]), ?_, ?_, ?_, ?_, ?_, ?_, ?_⟩
      ·(simp only [go_sem, *];try rfl)
      ·(simp only [go_sem, *];try rfl)
      ·(simp only [go_sem, *];try rfl)
      ·(simp only [go_sem, *];try rfl)
      ·(simp only [go_sem, *];try rfl)
      ·(simp only [go_sem, *];try rfl)
      ·simp only
       rw [Hsu.out,ah,← Hje.out]
       exact HIj.out
  ·have h1:decide ((i:Int)<(s.length:Int))=false:=by simpa using hlt
   have hie:i=s.length:=by omega
   have htk:(s.map aR).take i=s.map aR:=cA (by simp;omega)
   have hst1:=(Hst.out i).1
   have hIi3:=HIi.out
   rw [htk] at hpv hst1 hIi3
   have hfl:=fun S'=>CZ w0 S' (lC (s.map aR)).1 hst1
   have hce:=fun j c=>zS (s:=s) (j:=j) (c:=c)
   have hcl:(dl s).length=(lC (s.map aR)).2.length+(jc (lC (s.map aR)).1).length:=by
    unfold dl
    rw [px,ah]
   obtain⟨D,hD⟩:∃ D,(lC (s.map aR)).2=D:=⟨_,rfl⟩
   obtain⟨X,hX⟩:∃ X,(lC (s.map aR)).1=X:=⟨_,rfl⟩
   obtain⟨q2,hq2⟩:∃ q2,jc (lC (s.map aR)).1=q2:=⟨_,rfl⟩
   have hq2l:q2.length≤1:=by rw [← hq2];unfold jc;split<;>simp
   rw [hq2,hX] at hfl
   rw [hX] at hpv
   rw [hD,hq2] at hce hcl
   rw [hD] at hIi3
   have HIi2:=ae hIi3
   have Hce:=ae hce
   have Hcl:=ae hcl
   have Hfl:=ae hfl
   clear hIi3 HIi hce hcl hfl hst1 hD hX hq2 htk hie hlt hi Hst HI
   rcases hpv with⟨rfl,hX0⟩ | rfl
   all_goals
    try subst hX0
    repeat' first | refine st ?_ | (refine ca ?_;apply Hfl.out) | (refine br ?_ ?_<;>intro hb) | fail
    refine eJ (fun (j:Nat) env' S2=>j≤q2.length∧env' 1000000=.dfr []∧env' 0=.yld a∧env' 38=.sval false (q2.map Co)∧env' 39=.int .i64 q2.length∧env' 40=.int .i64 (j:Int)∧I (D.length+j) S2) (fun j=>q2.length - j) 0 ?_ ?_
    ·exact⟨bx _,ss,ss,ss,ss,ss,HIi2.out⟩
    ·clear e0 ey e1 e3 e12 e13
     rintro j env2 S2 ⟨hj,f0,fy,f25,f26,f27,hIj⟩ JH
     have HH:=ae JH
     have HIj:=ae hIj
     clear JH hIj
     by_cases hjl:j<q2.length
     ·obtain⟨c,hc⟩:∃ c,q2[j]? = some c:=⟨_,al hjl⟩
      have j1:decide ((j:Int)<(q2.length:Int))=true:=by simpa using hjl
      have hwj:af.wrap ((j:Int)+1)=(j:Int)+1:=au _ (by omega)
      have Hjl:=ae hjl
      clear hjl hj hq2l
      repeat' first | apply gp | apply eT | apply dU | apply eU | apply gq | apply cG | apply gu | apply cI | apply ct | apply dd | apply cH | apply cr | apply bU | apply gr | (apply bV;(· rfl)) | (apply da;simp only [bt]) | (apply dN;(· rfl);(· simp only [go_sem, *,Co];try rfl);(· rfl);simp only [putA]) | (apply eZ;simp only [putA]) | apply de | (apply dP;(· simp only [go_sem, *,Co];try rfl);(· rfl);(· simp only [go_sem, *,Co];try rfl)) | (apply dF;(iterate 2 (· simp only [go_sem, *,Co];try rfl));(· rfl);simp only [putA]) | (apply cq;(· simp only [go_sem, *,Co];try rfl);(· rfl);simp only [putA]) | (apply dQ;(· simp only [go_sem, *,Co];try rfl)) | (apply dS;(· simp only [go_sem, *,Co];try rfl)) | (apply db;(· rfl);(fail_if_success (focus (show _=some true;(· simp only [go_sem, *,Co];try rfl))));(· simp only [go_sem, *,Co];try rfl);all_goals (intro hb;try simp only [az,aG] at hb)) | (apply dR;(· simp only [go_sem, *,Co];try rfl);all_goals (intro hb;try simp only [az,aG] at hb)) | fail
      apply vO
      ·(simp only [go_sem, *];try rfl)
      ·rfl
      ·(simp only [go_sem, *];try rfl)
      ·rfl
      ·(simp only [go_sem, *];try rfl)
      have hy:=Hr.out (D.length+j) S2 c HIj.out (Hce.out j c hc) []
      simp only [aE,cU] at hy
      refine hy _ ?_
      intro S3 E3 hI3
      have hO3:=HJ.out _ _ hI3
      simp only [bK,putA]
      repeat' first | refine st ?_ | (refine br ?_ ?_<;>intro hb) | fail
      refine qO hO3.2 0 [0,38,39,40] (Hn.out.trans hO3.1.symm) ss ss ss ?_
      refine HH.out (j+1) _ _ (by have:=Hjl.out;omega) ⟨Hjl.out, ?_, ?_, ?_, ?_, ?_, ?_⟩
      ·(simp only [go_sem, *];try rfl)
      ·(simp only [go_sem, *];try rfl)
      ·(simp only [go_sem, *];try rfl)
      ·(simp only [go_sem, *];try rfl)
      ·(simp only [go_sem, *];try rfl)
      ·rw [show D.length+(j+1)=D.length+j+1 from rfl]
       simpa only [co,aE] using hI3
     ·have j1:decide ((j:Int)<(q2.length:Int))=false:=by simpa using hjl
      have hje:j=q2.length:=by omega
      have Hje:=ae hje
      clear hjl hj hje hq2l
      repeat' first | refine st ?_ | (refine br ?_ ?_<;>intro hb) | fail
      have hO2:=HJ.out _ _ HIj.out
      apply DW (S2:=S2) (L:=[])
      ·(simp only [go_sem, *];try rfl)
      ·(simp only [go_sem, *];try rfl)
      ·exact hO2.1.trans Hn.out.symm
      ·exact hO2.2
      ·(simp only [go_sem, *,Tryz.results268];try rfl)
      ·(simp only [go_sem, *];try rfl)
      ·(simp only [go_sem, *];try rfl)
      ·refine H.out _ ?_
       rw [Hcl.out,← Hje.out]
       exact HIj.out
theorem C2 (w0:World) (S:List ax) (s:List UInt8) (hs:s.length≤100000000) (R:Rt) (h:R (.ret (.sval false ((dl s).map Co))) S):ao Tryz.prog w0 186 [.str s] S R:=by
 have hlen:=(qB s).2
 refine eN Tryz.func186 rfl Tryz.ntmps186 fun hO=>?_
 repeat' first | refine st ?_ | (refine ca ?_;apply Ep) | (refine br ?_ ?_<;>intro hb) | fail
 refine l5 (a:=S.length) (j:=0) 3 1 ss ss (by decide) ?_
 simp only [go_sem, *]
 apply yg [2]
 ·(simp only [go_sem, *,CE];try rfl)
 ·(simp only [go_sem, *];try rfl)
 ·rfl
 ·(simp only [go_sem, *];try rfl)
 ·(simp only [go_sem, *];try rfl)
 intro LB hLB
 have hLB2:∀ m,LB.ltB (S.length+(1+m))=true:=by intro m;rw [hLB];(simp only [go_sem, *];try rfl);simp;omega
 have HLB:=ae hLB
 clear hLB
 refine C1 w0 s hs (S.length+3) (S.length+4) (by simp) (fun k S'=>S'=S++[ax.cells [AV.sown (S.length+1) k k],ax.arr 3 1 0 k (((dl s).take k).map Co),ax.obj (Obj.deferred (some [])),LB]) ?_ ?_ _ ?_ _ ?_
 ·rintro k _ rfl
  have h7:=hLB2 3
  clear h
  refine⟨by simp,bw.app hO ?_⟩
  (simp only [go_sem, *];try rfl)
 ·rintro k _ c rfl hx E R' hR1
  have hkl:k<(dl s).length:=(ab.1 hx).1
  have hlk:((dl s).take k).length=k:=by simp;omega
  have hb:(k+1) * 8≤140737488355328:=by omega
  have htk:(dl s).take (k+1)=(dl s).take k++[c]:=by rw [eP,hx];rfl
  clear h hkl hlen
  apply yd HLB.out
  ·(simp only [go_sem, *];try rfl)
  ·rfl
  ·decide
  ·rfl
  ·rfl
  ·(simp only [go_sem, *];try rfl)
  intro rb BB hBB
  have HBB:=ae hBB
  clear hBB
  repeat' first | apply gp | apply eT | apply dU | apply eU | apply gq | apply cG | apply gu | apply cI | apply ct | apply dd | apply cH | apply cr | apply bU | apply gr | (apply bV;(· rfl)) | (apply da;simp only [bt]) | (apply dN;(· rfl);(· simp only [go_sem, *,Co];try rfl);(· rfl);simp only [putA]) | (apply eZ;simp only [putA]) | apply de | (apply dP;(· simp only [go_sem, *,Co];try rfl);(· rfl);(· simp only [go_sem, *,Co];try rfl)) | (apply dF;(iterate 2 (· simp only [go_sem, *,Co];try rfl));(· rfl);simp only [putA]) | (apply cq;(· simp only [go_sem, *,Co];try rfl);(· rfl);simp only [putA]) | (apply dQ;(· simp only [go_sem, *,Co];try rfl)) | (apply dS;(· simp only [go_sem, *,Co];try rfl)) | (apply db;(· rfl);(fail_if_success (focus (show _=some true;(· simp only [go_sem, *,Co];try rfl))));(· simp only [go_sem, *,Co];try rfl);all_goals (intro hb;try simp only [az,aG] at hb)) | (apply dR;(· simp only [go_sem, *,Co];try rfl);all_goals (intro hb;try simp only [az,aG] at hb)) | fail
  apply yc
  ·(simp only [go_sem, *];try rfl)
  ·(simp only [go_sem, *];try rfl)
  have okC:=Co.ok ((dl s).take k)
  simp only [cC,AV.cells] at okC
  repeat' first | apply gp | apply eT | apply dU | apply eU | apply gq | apply cG | apply gu | apply cI | apply ct | apply dd | apply cH | apply cr | apply bU | apply gr | (apply bV;(· rfl)) | (apply da;simp only [bt]) | (apply dN;(· rfl);(· simp only [go_sem, *,aY];try rfl);(· rfl);simp only [putA]) | (apply eZ;simp only [putA]) | apply de | (apply dP;(· simp only [go_sem, *,aY];try rfl);(· rfl);(· simp only [go_sem, *,aY];try rfl)) | (apply dF;(iterate 2 (· simp only [go_sem, *,aY];try rfl));(· rfl);simp only [putA]) | (apply cq;(· simp only [go_sem, *,aY];try rfl);(· rfl);simp only [putA]) | (apply dQ;(· simp only [go_sem, *,aY];try rfl)) | (apply dS;(· simp only [go_sem, *,aY];try rfl)) | (apply db;(· rfl);(fail_if_success (focus (show _=some true;(· simp only [go_sem, *,aY];try rfl))));(· simp only [go_sem, *,aY];try rfl);all_goals (intro hb;try simp only [az,aG] at hb)) | (apply dR;(· simp only [go_sem, *,aY];try rfl);all_goals (intro hb;try simp only [az,aG] at hb)) | fail
  apply F2 HLB.out HBB.out
  ·(simp only [go_sem, *];try rfl)
  ·(simp only [go_sem, *];try rfl)
  have key:=hR1 _ [ax.arr 3 1 0 0 [Co c]] rfl
  rw [htk,bg] at key
  simpa only [ng,cz,cU,Co,aA,aC] using key
 ·simp [ng]
 ·rintro _ rfl
  have htl:(dl s).take (dl s).length=dl s:=bk
  rw [htl]
  clear hs hlen
  apply B6 HLB.out rfl
  ·(simp only [go_sem, *];try rfl)
  ·(simp only [go_sem, *];try rfl)
  repeat' first | refine st ?_ | (refine br ?_ ?_<;>intro hb) | fail
  refine fR Tryz.results186 ?_
  exact h
def fQ:List Nat→List Nat
 | []=>[]
 | [a]=>[a / 4,a % 4 * 16]
 | [a,b]=>[a / 4,a % 4 * 16+b / 16,b % 16 * 4]
 | a::b::c::r=>a / 4::(a % 4 * 16+b / 16)::(b % 16 * 4+c / 64)::c % 64::fQ r
structure lj where
 out:List Nat
 wait:Nat
 rest:Nat
def dq (q:lj) (c:Nat):lj :=
 if q.wait=0 then ⟨q.out++[(q.rest * 256+c) / 4],2,(q.rest * 256+c) % 4⟩
 else if q.wait=2 then ⟨q.out++[(q.rest * 256+c) / 16],4,(q.rest * 256+c) % 16⟩
 else ⟨q.out++[(q.rest * 256+c) / 64,(q.rest * 256+c) % 64],0,0⟩
def jM (q:lj):List Nat:=if q.wait=0 then q.out else if q.wait=2 then q.out++[q.rest * 16] else q.out++[q.rest * 4]
def D0 (s:List Nat):lj:=s.foldl dq ⟨[],0,0⟩
theorem tN:∀ (s:List Nat) (o:List Nat),(∀ x∈s,x<256)→jM (s.foldl dq ⟨o,0,0⟩)=o++fQ s
 | [],o,_=>by simp [jM,fQ]
 | [a],o,h=>by
  have ha:=h a (by simp)
  simp [dq,jM,fQ]
 | [a,b],o,h=>by
  have ha:=h a (by simp)
  have hb:=h b (by simp)
  simp [dq,jM,fQ]
  omega
 | a::b::c::r,o,h=>by
  have ha:=h a (by simp)
  have hb:=h b (by simp)
  have hc:=h c (by simp)
  have ih:=tN r (o++[a / 4,a % 4 * 16+b / 16,b % 16 * 4+c / 64,c % 64]) (fun x hx=>h x (by simp [hx]))
  have e:(a::b::c::r).foldl dq ⟨o,0,0⟩=r.foldl dq ⟨o++[a / 4,a % 4 * 16+b / 16,b % 16 * 4+c / 64,c % 64],0,0⟩:=by
   simp only [ee]
   congr 1
   simp [dq]
   omega
  rw [e,ih]
  simp [fQ]
theorem zC (s:List Nat) (h:∀ x∈s,x<256):jM (D0 s)=fQ s:=by
 have:=tN s [] h
 simpa [D0] using this
def cY (q:lj) (v:Nat):lj :=
 if q.wait=0 then ⟨q.out,6,q.rest * 64+v⟩
 else if q.wait=6 then ⟨q.out++[(q.rest * 64+v) / 16],4,(q.rest * 64+v) % 16⟩
 else if q.wait=4 then ⟨q.out++[(q.rest * 64+v) / 4],2,(q.rest * 64+v) % 4⟩
 else ⟨q.out++[q.rest * 64+v],0,0⟩
def cM:List Nat→lj
 | []=>⟨[],0,0⟩
 | [a]=>⟨[],6,a⟩
 | [a,b]=>⟨[a * 4+b / 16],4,b % 16⟩
 | [a,b,c]=>⟨[a * 4+b / 16,b % 16 * 16+c / 4],2,c % 4⟩
 | a::b::c::d::r=>⟨(a * 4+b / 16)::(b % 16 * 16+c / 4)::(c % 4 * 64+d)::(cM r).out,(cM r).wait,(cM r).rest⟩
theorem tQ:∀ (s:List Nat) (o:List Nat),(∀ x∈s,x<64)→s.foldl cY ⟨o,0,0⟩=⟨o++(cM s).out,(cM s).wait,(cM s).rest⟩
 | [],o,_=>by simp [cM]
 | [a],o,h=>by simp [cY,cM]
 | [a,b],o,h=>by
  have hb:=h b (by simp)
  simp [cY,cM]
  omega
 | [a,b,c],o,h=>by
  have hb:=h b (by simp)
  have hc:=h c (by simp)
  simp [cY,cM]
  omega
 | a::b::c::d::r,o,h=>by
  have hb:=h b (by simp)
  have hc:=h c (by simp)
  have hd:=h d (by simp)
  have ih:=tQ r (o++[a * 4+b / 16,b % 16 * 16+c / 4,c % 4 * 64+d]) (fun x hx=>h x (by simp [hx]))
  have e:(a::b::c::d::r).foldl cY ⟨o,0,0⟩=r.foldl cY ⟨o++[a * 4+b / 16,b % 16 * 16+c / 4,c % 4 * 64+d],0,0⟩:=by
   simp only [ee]
   congr 1
   simp [cY]
   omega
  rw [e,ih]
  simp [cM]
theorem wn:∀ (s:List Nat),(∀ x∈s,x<64)→(cM s).wait≠6→(cM s).rest=0→fQ (cM s).out=s
 | [],_,_,_=>by simp [cM,fQ]
 | [a],_,h1,_=>by simp [cM] at h1
 | [a,b],h,_,h2=>by
  have hb:=h b (by simp)
  simp [cM] at h2
  simp [cM,fQ]
  omega
 | [a,b,c],h,_,h2=>by
  have hb:=h b (by simp)
  have hc:=h c (by simp)
  simp [cM] at h2
  simp [cM,fQ]
  omega
 | a::b::c::d::r,h,h1,h2=>by
  have hb:=h b (by simp)
  have hc:=h c (by simp)
  have hd:=h d (by simp)
  have ih:=wn r (fun x hx=>h x (by simp [hx])) (by simpa [cM] using h1) (by simpa [cM] using h2)
  simp only [cM,fQ,ih]
  simp
  omega
theorem rX:∀ (t:List Nat),(∀ x∈t,x<256)→(cM (fQ t)).out=t∧(cM (fQ t)).wait≠6∧(cM (fQ t)).rest=0
 | [],_=>by simp [cM,fQ]
 | [a],h=>by
  have ha:=h a (by simp)
  simp [cM,fQ]
  omega
 | [a,b],h=>by
  have ha:=h a (by simp)
  have hb:=h b (by simp)
  simp [cM,fQ]
  omega
 | a::b::c::r,h=>by
  have ha:=h a (by simp)
  have hb:=h b (by simp)
  have hc:=h c (by simp)
  obtain⟨h1,h2,h3⟩:=rX r (fun x hx=>h x (by simp [hx]))
  simp only [cM,fQ,h1,h3]
  refine⟨?_,h2,trivial⟩
  simp
  omega
theorem m8:∀ (t:List Nat),(∀ x∈t,x<256)→∀ v∈fQ t,v<64
 | [],_=>by simp [fQ]
 | [a],h=>by
  have ha:=h a (by simp)
  simp [fQ]
  omega
 | [a,b],h=>by
  have ha:=h a (by simp)
  have hb:=h b (by simp)
  simp [fQ]
  omega
 | a::b::c::r,h=>by
  have ha:=h a (by simp)
  have hb:=h b (by simp)
  have hc:=h c (by simp)
  have ih:=m8 r (fun x hx=>h x (by simp [hx]))
  intro v hv
  simp only [fQ,bA] at hv
  rcases hv with rfl | rfl | rfl | rfl | hv
  ·omega
  ·omega
  ·omega
  ·omega
  ·exact ih v hv
theorem zG:∀ (s:List Nat),(∀ x∈s,x<64)→∀ v∈(cM s).out,v<256
 | [],_=>by simp [cM]
 | [a],_=>by simp [cM]
 | [a,b],h=>by
  have ha:=h a (by simp)
  have hb:=h b (by simp)
  simp [cM]
  omega
 | [a,b,c],h=>by
  have ha:=h a (by simp)
  have hb:=h b (by simp)
  have hc:=h c (by simp)
  simp [cM]
  omega
 | a::b::c::d::r,h=>by
  have ha:=h a (by simp)
  have hb:=h b (by simp)
  have hc:=h c (by simp)
  have hd:=h d (by simp)
  have ih:=zG r (fun x hx=>h x (by simp [hx]))
  intro v hv
  simp only [cM,bA] at hv
  rcases hv with rfl | rfl | rfl | hv
  ·omega
  ·omega
  ·omega
  ·exact ih v hv
theorem rV:∀ (t:List Nat),(fQ t).length=(8 * t.length+5) / 6
 | []=>by simp [fQ]
 | [a]=>by simp [fQ]
 | [a,b]=>by simp [fQ]
 | a::b::c::r=>by
  have ih:=rV r
  simp only [fQ,aI,ih]
  omega
def mU:List UInt8:=[65,66,67,68,69,70,71,72,73,74,75,76,77,78,79,80,81,82,83,84,85,86,87,88,89,90,97,98,99,100,101,102,103,104,105,106,107,108,109,110,111,112,113,114,115,116,117,118,119,120,121,122,48,49,50,51,52,53,54,55,56,57,43,47]
def bh (v:Nat):UInt8:=mU.getD v 0
def j7 (c:UInt8):Option Nat:=mU.findIdx? (fun x=>x==c)
theorem sE:∀ v,v<64→j7 (bh v)=some v:=by decide +kernel
theorem wQ:∀ v,v<64→bh v≠61:=by decide +kernel
theorem ym:j7 61=none:=by decide +kernel
theorem sD {c:UInt8}{v:Nat} (h:j7 c=some v):v<64∧bh v=c:=by
 unfold j7 at h
 rw [List.findIdx?_eq_some_iff_getElem] at h
 obtain⟨h1,h2,_⟩:=h
 refine⟨h1, ?_⟩
 unfold bh
 rw [List.getD_eq_getElem?_getD,al h1]
 simpa using h2
def ft:List UInt8→Option (List Nat)
 | []=>some []
 | c::r=>match j7 c with
  | some v=>(ft r).map (v::·)
  | none=>none
def p8:List UInt8→List Nat
 | []=>[]
 | c::r=>match j7 c with
  | some v=>v::p8 r
  | none=>[]
def fU (s:List UInt8):List UInt8:=(s.reverse.dropWhile (fun b=>b==61)).reverse
def gD (s:List UInt8):List UInt8:=(fQ (s.map aR)).map bh
def kB (n:Nat):Nat:=(4 - n % 4) % 4
def g9 (s:List UInt8):List UInt8:=gD s++bp (kB (gD s).length) 61
def pk (s:List UInt8):Option (List UInt8) :=
 if (fU s).length≠s.length∧(s.length % 4≠0∨2<s.length - (fU s).length) then none else
  match ft (fU s) with
  | none=>none
  | some V=>if (cM V).wait=6∨(cM V).rest≠0 then none else some ((cM V).out.map aD)
def tR (s:List UInt8):List UInt8:=(cM (p8 s)).out.map aD
def zI (s:List UInt8):Option (List UInt8):=if s≠gD (tR s)∧s≠g9 (tR s) then none else some (tR s)
theorem sA:∀ (V:List Nat),(∀ v∈V,v<64)→ft (V.map bh)=some V
 | [],_=>rfl
 | v::V,h=>by
  rw [aA,ft,sE v (h v (by simp)),sA V (fun x hx=>h x (by simp [hx]))]
  rfl
theorem mR:∀ {s:List UInt8}{V:List Nat},ft s=some V→s=V.map bh∧∀ v∈V,v<64
 | [],V,h=>by cases h;simp
 | c::r,V,h=>by
  rw [ft] at h
  cases hc:j7 c with
  | none=>rw [hc] at h;cases h
  | some v =>
   rw [hc] at h
   simp only at h
   cases hr:ft r with
   | none=>rw [hr] at h;cases h
   | some W =>
    rw [hr] at h
    cases h
    obtain⟨h1,h2⟩:=mR hr
    obtain⟨h3,h4⟩:=sD hc
    refine⟨by rw [aA,h4,← h1], ?_⟩
    intro x hx
    rcases bA.1 hx with rfl | hx
    ·exact h3
    ·exact h2 x hx
theorem kn:∀ (V:List Nat) (k:Nat),(∀ v∈V,v<64)→p8 (V.map bh++bp k 61)=V
 | [],k,_=>by
  cases k with
  | zero=>rfl
  | succ k=>simp [gk,p8,ym]
 | v::V,k,h=>by
  rw [aA,cz,p8,sE v (h v (by simp))]
  simp only
  rw [kn V k (fun x hx=>h x (by simp [hx]))]
theorem zE (l:List UInt8) (k:Nat):(bp k (61:UInt8)++l).dropWhile (fun b=>b==61)=l.dropWhile (fun b=>b==61):=by
 induction k with
 | zero=>rfl
 | succ k ih=>rw [gk,cz,qM (by rfl),ih]
theorem yv (V:List Nat) (k:Nat) (h:∀ v∈V,v<64):fU (V.map bh++bp k 61)=V.map bh:=by
 unfold fU
 rw [xT,ut,zE]
 cases hV:(V.map bh).reverse with
 | nil=>have:=congrArg List.reverse hV;simp at this;simp [this]
 | cons c r =>
  have hc:c∈V.map bh:=by rw [← List.mem_reverse,hV];simp
  obtain⟨v,hv,rfl⟩:=aH.1 hc
  have hn:=wQ v (h v hv)
  rw [qN (by simpa using hn),← hV,ww]
theorem pf:∀ (l:List UInt8),∃ k,l=bp k 61++l.dropWhile (fun b=>b==61)
 | []=>⟨0,rfl⟩
 | c::r=>by
  by_cases hc:c=61
  ·subst hc
   obtain⟨k,hk⟩:=pf r
   refine⟨k+1, ?_⟩
   rw [qM (by rfl),gk,cz,← hk]
  ·refine⟨0, ?_⟩
   rw [qN (by simpa using hc)]
   rfl
theorem oA (s:List UInt8):∃ k,s=fU s++bp k 61:=by
 obtain⟨k,hk⟩:=pf s.reverse
 refine⟨k, ?_⟩
 have:=congrArg List.reverse hk
 rw [ww,xT,ut] at this
 exact this
theorem pi:∀ V:List Nat,(cM V).wait=6↔V.length % 4=1
 | []=>by simp [cM]
 | [a]=>by simp [cM]
 | [a,b]=>by simp [cM]
 | [a,b,c]=>by simp [cM]
 | a::b::c::d::r=>by
  have ih:=pi r
  simp only [cM,aI,ih]
  omega
theorem iQ:∀ (l:List Nat),(∀ v∈l,v<256)→(l.map aD).map aR=l
 | [],_=>rfl
 | a::l,h=>by
  have ha:=h a (by simp)
  rw [aA,aA,iQ l (fun x hx=>h x (by simp [hx]))]
  congr 1
  simp [UInt8.toNat_ofNat']
  omega
theorem toNat_lt (t:List UInt8):∀ v∈t.map aR,v<256:=by
 intro v hv
 obtain⟨c,_,rfl⟩:=aH.1 hv
 exact c.toNat_lt
theorem zF (s:List UInt8):pk s=zI s:=by
 by_cases hs:∃ (V:List Nat) (k:Nat),(∀ v∈V,v<64)∧s=V.map bh++bp k 61
 ·obtain⟨V,k,hV,rfl⟩:=hs
  unfold pk zI tR
  rw [kn V k hV,yv V k hV,sA V hV]
  have ho:=zG V hV
  have hw:=pi V
  by_cases hq:(cM V).wait=6∨(cM V).rest≠0
  ·simp only
   rw [if_pos hq]
   have hno:¬ ((V.map bh++bp k 61=gD ((cM V).out.map aD))∨(V.map bh++bp k 61=g9 ((cM V).out.map aD))):=by
    intro he
    have he':∃ j,V.map bh++bp k 61=gD ((cM V).out.map aD)++bp j 61:=by
     rcases he with he | he
     ·exact⟨0,by simpa using he⟩
     ·exact⟨_,he⟩
    obtain⟨j,he⟩:=he'
    have ht:=congrArg p8 he
    unfold gD at ht
    rw [kn V k hV,iQ _ ho,kn _ j (m8 _ ho)] at ht
    obtain⟨_,h2,h3⟩:=rX _ ho
    rw [← ht] at h2 h3
    rcases hq with hq | hq
    ·exact h2 hq
    ·exact hq h3
   split
   ·rw [if_pos ⟨fun e=>hno (.inl e),fun e=>hno (.inr e)⟩]
   ·rw [if_pos ⟨fun e=>hno (.inl e),fun e=>hno (.inr e)⟩]
  ·have h1:(cM V).wait≠6:=fun e=>hq (.inl e)
   have h2:(cM V).rest=0:=Decidable.byContradiction fun e=>hq (.inr e)
   have hb:gD ((cM V).out.map aD)=V.map bh:=by
    unfold gD
    rw [iQ _ ho,wn V hV h1 h2]
   simp only
   rw [if_neg hq]
   unfold g9
   rw [hb]
   simp only [ah,aY,x8]
   have hl:V.length % 4≠1:=fun e=>h1 (hw.2 e)
   have hk0:(V.map bh++bp k 61=V.map bh)↔k=0:=by
    constructor
    ·intro e
     have:=congrArg dM e
     simp at this
     exact this
    ·rintro rfl;simp
   have hkp:(V.map bh++bp k 61=V.map bh++bp (kB V.length) 61)↔k=kB V.length:=by
    constructor
    ·intro e
     have:=congrArg dM e
     simp at this
     exact this
    ·rintro rfl;rfl
   by_cases hg:k=0∨k=kB V.length
   ·rw [if_neg (by unfold kB at hg;omega),if_neg (by rw [ne_eq,ne_eq,hk0,hkp];omega)]
   ·rw [if_pos (by unfold kB at hg;omega),if_pos (by rw [ne_eq,ne_eq,hk0,hkp];omega)]
 ·have e1:pk s=none:=by
   unfold pk
   split
   ·rfl
   ·cases hv:ft (fU s) with
    | none=>rfl
    | some V =>
     exfalso
     obtain⟨k,hk⟩:=oA s
     obtain⟨h1,h2⟩:=mR hv
     exact hs ⟨V,k,h2,by rw [← h1];exact hk⟩
  have e2:zI s=none:=by
   unfold zI
   rw [if_pos]
   constructor
   ·intro e
    exact hs ⟨_,0,m8 _ (toNat_lt (tR s)),by rw [List.replicate_zero,aE];exact e⟩
   ·intro e
    exact hs ⟨_,_,m8 _ (toNat_lt (tR s)),e⟩
  rw [e1,e2]
def ti (c:Nat):Bool:=decide (32≤c)&&!(decide (127≤c)&&decide (c≤159))
def tn (s:List UInt8):Bool:=(dl s).all ti&&decide (e9 (dl s)=s)
def fV (s:List UInt8):Bool:=decide (s.length≤510)&&tn s
theorem wM (l:List Nat):(e9 l).map aR=Cw l:=by
 induction l with
 | nil=>rfl
 | cons c l ih =>
  show (pO c++e9 l).map aR=rh c++Cw l
  rw [bg,ih]
  congr 1
  unfold pO
  exact iQ _ (wZ c)
theorem uL (c:Nat) (hc:ti c=true):∀ x∈rh c,32≤x∧x≠127:=by
 unfold ti at hc
 simp at hc
 intro x hx
 unfold rh at hx
 split at hx
 ·unfold mf at hx
  repeat' split at hx
  all_goals (simp at hx;omega)
 ·simp [mf] at hx
  omega
def r_ (s:List UInt8):Prop:=∀ b∈s,32≤b.toNat∧b.toNat≠127
theorem tl {s:List UInt8} (h:tn s=true):r_ s:=by
 unfold tn at h
 rw [aj,aq,decide_eq_true_eq] at h
 obtain⟨h1,h2⟩:=h
 intro b hb
 rw [← h2] at hb
 have hm:b.toNat∈(e9 (dl s)).map aR:=aH.2 ⟨b,hb,rfl⟩
 rw [wM] at hm
 obtain⟨c,hc,hx⟩:=List.mem_flatMap.1 hm
 exact uL c (h1 c hc) _ hx
def kv (n:Nat):List UInt8:=[114,103,98,58,cT (n / 1048576),cT (n / 65536 % 16),47,cT (n / 4096 % 16),cT (n / 256 % 16),47,cT (n / 16 % 16),cT (n % 16)]
def jr:List UInt8→Option Nat
 | [p0,p1,p2,p3,a,b,q,c,d,r,e,f]=>if p0=114∧p1=103∧p2=98∧p3=58∧q=47∧r=47 then
   (match ia a b,ia c d,ia e f with
   | some x,some y,some z=>some (x * 65536+y * 256+z)
   | _,_,_=>none) else none
 | _=>none
theorem rK:∀ x,x<16→∀ y,y<16→ia (cT x) (cT y)=some (x * 16+y):=by decide +kernel
theorem xo:∀ x,x<16→32≤(cT x).toNat∧(cT x).toNat≠127∧cT x≠59:=by decide +kernel
theorem BW {n:Nat} (h:n≤16777215):jr (kv n)=some n:=by
 unfold kv jr
 simp only
 rw [if_pos (by simp),rK _ (by omega) _ (by omega),rK _ (by omega) _ (by omega),rK _ (by omega) _ (by omega)]
 simp only
 congr 1
 omega
theorem D9 {s:List UInt8}{n:Nat} (h:jr s=some n):n≤16777215:=by
 unfold jr at h
 split at h
 ·split at h
  ·split at h
   ·next x y z hx hy hz =>
    have:=n6 hx
    have:=n6 hy
    have:=n6 hz
    cases h
    omega
   ·cases h
  ·cases h
 ·cases h
theorem wW {n:Nat} (h:n≤16777215):r_ (kv n):=by
 intro b hb
 simp only [kv,bA,List.not_mem_nil,or_false] at hb
 have g:=fun x hx=>xo x hx
 rcases hb with rfl | rfl | rfl | rfl | rfl | rfl | rfl | rfl | rfl | rfl | rfl | rfl
 all_goals first
  | decide
  | exact⟨(g _ (by omega)).1,(g _ (by omega)).2.1⟩
def wo (b:UInt8):Bool:=decide (48≤b.toNat)&&decide (b.toNat≤57)
def nH (w:List UInt8):Nat:=w.foldl (fun n b=>n * 10+(b.toNat - 48)) 0
def pT (w:List UInt8):Option Nat:=if w=[]∨3<w.length∨w.all wo=false∨255<nH w then none else some (nH w)
theorem tv:∀ n:Nat,n<256→pT (fJ (n:Int))=some n∧(fJ (n:Int)).length≤3∧(fJ (n:Int)).all (fun b=>decide (b≠59)&&(decide (32≤b.toNat)&&decide (b.toNat≠127)))=true:=by decide +kernel
theorem DD {w:List UInt8}{n:Nat} (h:pT w=some n):n≤255:=by
 unfold pT at h
 split at h
 ·cases h
 ·next hh=>cases h;omega
def iB (s:List UInt8):Option (List UInt8 × List UInt8):=if s.dropWhile (fun b=>b != 59)=[] then none else some (s.takeWhile (fun b=>b != 59),(s.dropWhile (fun b=>b != 59)).drop 1)
theorem mB:∀ {w:List UInt8} (r:List UInt8),(∀ b∈w,b≠59)→iB (w++59::r)=some (w,r):=by
 intro w r hw
 have h:(w++59::r).takeWhile (fun b=>b != 59)=w∧(w++59::r).dropWhile (fun b=>b != 59)=59::r:=by
  induction w with
  | nil=>exact⟨rfl,rfl⟩
  | cons c w ih =>
   have hc:(c != 59)=true:=by simpa using hw c (by simp)
   obtain⟨h1,h2⟩:=ih (fun b hb=>hw b (fa _ hb))
   simp only [cz]
   rw [List.takeWhile_cons,List.dropWhile_cons,if_pos hc,if_pos hc,h1,h2]
   exact⟨rfl,rfl⟩
 unfold iB
 rw [h.1,h.2]
 rfl
structure Ac where
 kind:Int
 n:Int
 m:Int
 ck:Int
 cn:Int
 text:List UInt8
 deriving DecidableEq
def zeroA:Ac:=⟨0,0,0,0,0,[]⟩
def dH (a:Ac):Option (List UInt8) :=
 if a=⟨44,0,0,0,0,a.text⟩∧fV a.text=true then some (50::59::a.text)
 else if a=⟨45,a.n,0,2,a.cn,[]⟩∧(0≤a.n∧a.n≤255)∧(0≤a.cn∧a.cn≤16777215) then some (52::59::(fJ a.n++59::kv a.cn.toNat))
 else if a=⟨46,0,0,0,0,a.text⟩∧a.text.length≤378 then some (53::50::59::99::59::g9 a.text)
 else none
def ek (s:List UInt8):Option Ac :=
 if 512<s.length then none else
  match iB s with
  | none=>none
  | some (k,r) =>
   if k=[48]∨k=[50] then (if fV r then some ⟨44,0,0,0,0,r⟩ else none)
   else if k=[52] then
    (match iB r with
    | none=>none
    | some (h,t)=>match pT h,jr t with
     | some n,some c=>some ⟨45,n,0,2,c,[]⟩
     | _,_=>none)
   else if k=[53,50] then
    (match iB r with
    | none=>none
    | some (w,t)=>if w=[99] then
      (match pk t with
      | some c=>if c.length≤378 then some ⟨46,0,0,0,0,c⟩ else none
      | none=>none) else none)
   else none
theorem nn {a:Ac}{s:List UInt8} (h:dH a=some s) :
  (∃ t,a=⟨44,0,0,0,0,t⟩∧fV t=true∧s=50::59::t) ∨
  (∃ n c:Nat,a=⟨45,n,0,2,c,[]⟩∧n<256∧c≤16777215∧s=52::59::(fJ n++59::kv c)) ∨
  (∃ t,a=⟨46,0,0,0,0,t⟩∧t.length≤378∧s=53::50::59::99::59::g9 t):=by
 unfold dH at h
 split at h
 ·next hh=>cases h;exact .inl ⟨_,hh.1,hh.2,rfl⟩
 ·split at h
  ·next hh =>
   obtain⟨h1,⟨h2,h3⟩,h4,h5⟩:=hh
   cases h
   obtain⟨n,hn⟩:∃ n:Nat,a.n=n:=⟨a.n.toNat,by omega⟩
   obtain⟨c,hc⟩:∃ c:Nat,a.cn=c:=⟨a.cn.toNat,by omega⟩
   rw [hn,hc] at h1
   exact .inr (.inl ⟨n,c,h1,by omega,by omega,by rw [hn,hc];rfl⟩)
  ·split at h
   ·next hh=>cases h;exact .inr (.inr ⟨_,hh.1,hh.2,rfl⟩)
   ·cases h
theorem zD (t:List UInt8):(g9 t).length=(t.length+2) / 3 * 4:=by
 unfold g9 gD kB
 simp only [ah,aY,x8,rV]
 omega
theorem uG:∀ v,v<64→32≤(bh v).toNat∧(bh v).toNat≠127:=by decide +kernel
theorem vk (t:List UInt8):r_ (g9 t):=by
 intro b hb
 unfold g9 gD at hb
 rcases bv.1 hb with hb | hb
 ·obtain⟨v,hv,rfl⟩:=aH.1 hb
  exact uG v (m8 _ (toNat_lt t) v hv)
 ·rw [List.eq_of_mem_replicate hb];decide
theorem zH (t:List UInt8):pk (g9 t)=some t:=by
 rw [zF]
 have hV:=m8 _ (toNat_lt t)
 have hd:tR (g9 t)=t:=by
  unfold tR g9 gD
  rw [kn _ _ hV,(rX _ (toNat_lt t)).1,Ag]
  conv=>rhs;rw [← List.map_id t]
  apply List.map_congr_left
  intro c _
  simp
 unfold zI
 rw [hd,if_neg (by simp)]
theorem td {a:Ac}{s:List UInt8} (h:dH a=some s):ek s=some a∧0<s.length∧s.length≤512∧r_ s:=by
 rcases nn h with⟨t,rfl,ht,rfl⟩ | ⟨n,c,rfl,hn,hc,rfl⟩ | ⟨t,rfl,ht,rfl⟩
 ·have htl:t.length≤510∧tn t=true:=by unfold fV at ht;simpa using ht
  refine⟨?_,by simp,by simp;omega, ?_⟩
  ·unfold ek
   have hcut:iB (50::59::t)=some ([50],t):=mB (w:=[50]) t (by simp)
   rw [if_neg (by simp;omega),hcut]
   simp [ht]
  ·intro b hb
   simp only [bA] at hb
   rcases hb with rfl | rfl | hb
   ·decide
   ·decide
   ·exact tl htl.2 b hb
 ·obtain⟨h1,h2,h3⟩:=tv n hn
  rw [aq] at h3
  have hw:∀ b∈fJ (n:Int),b≠59:=fun b hb=>by have:=h3 b hb;simp at this;exact this.1
  have hl:(kv c).length=12:=rfl
  refine⟨?_,by simp,by simp;omega, ?_⟩
  ·unfold ek
   have hcut:iB (52::59::(fJ (n:Int)++59::kv c))=some ([52],fJ (n:Int)++59::kv c):=mB (w:=[52]) _ (by simp)
   rw [if_neg (by simp;omega),hcut]
   simp only
   rw [if_neg (by decide),if_pos trivial,mB _ hw]
   simp only [h1,BW hc]
  ·intro b hb
   simp only [bA,bv] at hb
   rcases hb with rfl | rfl | hb | rfl | hb
   ·decide
   ·decide
   ·have:=h3 b hb;simp at this;exact⟨this.2.1,this.2.2⟩
   ·decide
   ·exact wW hc b hb
 ·have hl:=zD t
  refine⟨?_,by simp,by simp;omega, ?_⟩
  ·unfold ek
   have hcut:iB (53::50::59::99::59::g9 t)=some ([53,50],99::59::g9 t):=mB (w:=[53,50]) _ (by simp)
   have hcut2:iB (99::59::g9 t)=some ([99],g9 t):=mB (w:=[99]) _ (by simp)
   rw [if_neg (by simp;omega),hcut]
   simp only
   rw [if_neg (by decide),if_neg (by decide),if_pos trivial,hcut2]
   simp only [if_true,zH,ht]
  ·intro b hb
   simp only [bA] at hb
   rcases hb with rfl | rfl | rfl | rfl | rfl | hb
   ·decide
   ·decide
   ·decide
   ·decide
   ·decide
   ·exact vk t b hb
theorem tc {s:List UInt8}{a:Ac} (h:ek s=some a):(∃ u,dH a=some u)∧s.length≤512:=by
 unfold ek at h
 split at h
 ·cases h
 next hl =>
 refine⟨?_,by omega⟩
 split at h
 ·cases h
 ·split at h
  ·split at h
   ·next ht=>cases h;exact⟨_,by unfold dH;rw [if_pos ⟨rfl,ht⟩]⟩
   ·cases h
  ·split at h
   ·split at h
    ·cases h
    ·split at h
     ·next n c hn hc =>
      cases h
      have h1:=DD hn
      have h2:=D9 hc
      exact⟨_,by unfold dH;rw [if_neg (by simp),if_pos ⟨rfl,⟨by simp,by simp;omega⟩,by simp,by simp;omega⟩]⟩
     ·cases h
   ·split at h
    ·split at h
     ·cases h
     ·split at h
      ·split at h
       ·split at h
        ·next hc=>cases h;exact⟨_,by unfold dH;rw [if_neg (by simp),if_neg (by simp),if_pos ⟨rfl,hc⟩]⟩
        ·cases h
       ·cases h
      ·cases h
    ·cases h
end Go.Proofs.YthdbijpefkapnaaGreatDoor
