/- YthdbijpefkapnaaGreatDoorWalk0. Texts of the proof of a law about texts: a layer of abstract values above the worlds, the types, the walks of the functions that the law reaches, the law and its card. Own work of an AI agent. -/
import Derived.Test.YthdbijpefkapnaaGreatDoorCore4
import Derived.Test.YthdbijpefkapnaaGreatDoorCore3
import Derived.Test.YthdbijpefkapnaaGreatDoorTy
import Derived.Shelf.LaysM
import Derived.Shelf.Strconv.Itoa3
import Derived.Shelf.Abstract
import Derived.Lib.ItoaLen
import Derived.Lib.AppendIntMem
import Derived.Test.YthdbijpefkapnaaGreatDoorShelf
set_option linter.all false
set_option maxHeartbeats 40000000
open And renaming intro → cD
open BitVec renaming ofInt → aD, toNat_and → EV, toNat_ofInt → cV, toNat_or → HT
open Bool renaming and_eq_false_iff → fm, and_eq_true → aB, eq_iff_iff → dT, false_or → kZ, not_eq_false' → aA, not_eq_true' → ax, or_eq_true → fc, true_eq_false → lB
open Function renaming comp_def → be
open Go.IntKind renaming bits → bz, i64 → ar, u8 → bo
open Go.IntWalk renaming i64_in → ay, u8_in → eo
open Go.Lib renaming hid → au, itoa → cO
open Int renaming fdiv_eq_ediv_of_nonneg → zI, le_refl → EU
open List renaming all_eq_true → aF, all_map → bT, cons_append → al, flatMap_cons → kY, getElem?_append_right → aM, getElem?_eq_getElem → aC, getElem?_eq_some_iff → aw, getElem?_set_ne → cN, length_append → ab, length_cons → ah, length_eq_one_iff → jL, length_eq_zero_iff → ib, length_nil → aj, map → bS, map_append → co, map_cons → aG, map_nil → aL, mem_append → dg, mem_cons → dj, mem_map → aX, mem_of_getElem? → aI, mem_singleton → bC, nil_append → ap, set_append_right → ef, take → qR, take_add_one → pI, take_length → bQ, take_of_length_le → dW, toList_toArray → aU
open Nat renaming and_two_pow_sub_one_eq_mod → zD, le_refl → bg, le_succ_of_le → tR, mod_eq_of_lt → pH, mod_lt → fa, pow_le_pow_right → gx, reduceSub → fh, zero_le → bI
open UInt8 renaming ofNat → aN
namespace Go.Proofs.YthdbijpefkapnaaGreatDoor
open Go Go.Fen
attribute [local irreducible] ba WP az dI ie cU aR cw
set_option maxRecDepth 8000
def iI (b:UInt8):AV:=.int .u8 (b.toNat:Int)
theorem qN (l:List UInt8):hZ (l.map iI)=some l:=by
 induction l with
 | nil=>rfl
 | cons x l ih=>simp [hZ,iI,ih]
theorem xl (l:List UInt8):vu (l.map iI)=true:=by
 unfold vu
 rw [aF]
 intro x hx
 obtain⟨b,_,rfl⟩:=aX.1 hx
 have:=b.toNat_lt
 simp [iI];omega
@[go_sem] theorem Np (l:List UInt8):dz 1 (l.map iI)=true:=by
 unfold dz;rw [aF];intro x hx;obtain⟨y,_,rfl⟩:=aX.1 hx;rfl
@[go_sem] theorem KL (l:List UInt8):plainL (l.map iI)=true:=gk (fun _=>rfl) l
@[go_sem] theorem wb (l:List UInt8) (n:Nat):ltL n (l.map iI)=true:=dC.2 fun x hx=>by obtain⟨y,_,rfl⟩:=aX.1 hx;rfl
def ej (n:Nat):UInt8:=if n<10 then aN (48+n) else aN (87+n)
def jF (b:UInt8):Option Nat :=
 if 48≤b.toNat∧b.toNat≤57 then some (b.toNat - 48)
 else if 97≤b.toNat∧b.toNat≤102 then some (b.toNat - 87)
 else if 65≤b.toNat∧b.toNat≤70 then some (b.toNat - 55) else none
def j9 (a b:UInt8):Option Nat :=
 match jF a,jF b with
 | some x,some y=>some (x * 16+y)
 | _,_=>none
theorem sB {a:UInt8}{x:Nat} (h:jF a=some x):x<16:=by
 unfold jF at h
 split at h
 ·cases h;omega
 ·split at h
  ·cases h;omega
  ·split at h
   ·cases h;omega
   ·cases h
theorem ro {a b:UInt8}{v:Nat} (h:j9 a b=some v):v<256:=by
 unfold j9 at h
 split at h
 ·next x y hx hy =>
  cases h
  have:=sB hx
  have:=sB hy
  omega
 ·cases h
def jR (b:Nat):Nat:=if b<128 then 1 else if b<194 then 0 else if b<224 then 2 else if b<240 then 3 else if b<245 then 4 else 0
def yU (b:Nat):Nat:=if b=224 then 160 else if b=240 then 144 else 128
def y8 (b:Nat):Nat:=if b=237 then 159 else if b=244 then 143 else 191
def gp:Nat→Nat→List Nat→Bool
 | _,_,[]=>true
 | lo,hi,b::r=>decide (lo≤b)&&(decide (b≤hi)&&gp 128 191 r)
def dD:List Nat→Nat
 | []=>0
 | b::r=>if jR b<r.length+1 then 0 else if gp (yU b) (y8 b) r then (if r.length+1<jR b then 1 else 2) else 0
def iY:List Nat→Nat
 | []=>0
 | b::r=>r.foldl (fun c x=>c * 64+x % 64) (if r=[] then b else b % 2 ^ (7 - (r.length+1)))
def cQ (b:Nat):Nat × Nat:=if b<128 then (1,b) else if b<192 then (0,0) else if b<224 then (2,b - 192) else if b<240 then (3,b - 224) else if b<248 then (4,b - 240) else (0,0)
def eP:Nat→List Nat→Nat→Nat→Option (Nat × Nat)
 | 0,_,lo,hi=>some (lo,hi)
 | n+1,[],lo,hi=>eP n [] (lo * 64) (hi * 64+63)
 | n+1,b::r,lo,hi=>if b<128∨191<b then none else eP n r (lo * 64+(b - 128)) (hi * 64+(b - 128))
def gn:List Nat→Nat × Nat × Nat
 | []=>(0,0,0)
 | b::r=>match eP ((cQ b).1 - 1) r (cQ b).2 (cQ b).2 with
  | none=>(0,0,0)
  | some (lo,hi)=>if (cQ b).1<r.length+1 then (0,0,0) else (lo,hi,(cQ b).1)
def p8:Nat→Nat | 2=>128 | 3=>2048 | 4=>65536 | _=>0
def uf:Nat→Nat | 1=>127 | 2=>2047 | 3=>65535 | 4=>1114111 | _=>0
def kx (p:List Nat):Bool × Bool :=
 let s:=gn p
 if s.2.2=0 then (false,false) else
  let lo:=max s.1 (p8 s.2.2)
  let hi:=min s.2.1 (uf s.2.2)
  let is:=decide (lo≤hi)&&!(decide (55296≤lo)&&decide (hi≤57343))
  (is,is&&decide (p.length=s.2.2))
theorem dm (a:Nat) :
  (a<128∧cQ a=(1,a)∧jR a=1)∨((128≤a∧a<192∨248≤a)∧cQ a=(0,0)∧jR a=0)∨(192≤a∧a<194∧cQ a=(2,a - 192)∧jR a=0) ∨
  (194≤a∧a<224∧cQ a=(2,a - 192)∧jR a=2)∨(224≤a∧a<240∧cQ a=(3,a - 224)∧jR a=3)∨(240≤a∧a<245∧cQ a=(4,a - 240)∧jR a=4)∨(245≤a∧a<248∧cQ a=(4,a - 240)∧jR a=0):=by
 unfold cQ jR
 repeat' split
 all_goals simp
 all_goals omega
theorem BU (a:Nat){b:Nat}{r:List Nat} (hb:b<128∨191<b):gp (yU a) (y8 a) (b::r)=false:=by
 have h1:128≤yU a:=by
  unfold yU
  repeat' split
  all_goals omega
 have h2:y8 a≤191:=by
  unfold y8
  repeat' split
  all_goals omega
 rw [gp,fm]
 rcases hb with hb | hb
 ·left;simp;omega
 ·right;rw [fm];left;simp;omega
theorem p9 (a:Nat){b:Nat}{r:List Nat} (hb:b<128∨191<b):dD (a::b::r)=0:=by
 rw [dD,BU a hb]
 simp
theorem up (p:List Nat):kx p=(decide (dD p≠0),decide (dD p=2)):=by
 match p with
 | []=>rfl
 | [a] =>
  rcases dm a with⟨h1,hF,hL⟩ | ⟨h1,hF,hL⟩ | ⟨h1,h2,hF,hL⟩ | ⟨h1,h2,hF,hL⟩ | ⟨h1,h2,hF,hL⟩ | ⟨h1,h2,hF,hL⟩ | ⟨h1,h2,hF,hL⟩
  all_goals simp [kx,gn,dD,hF,hL,eP,p8,uf,gp]
  all_goals omega
 | [a,b] =>
  by_cases hb:b<128∨191<b
  ·rw [p9 (r:=[]) a hb]
   rcases dm a with⟨h1,hF,hL⟩ | ⟨h1,hF,hL⟩ | ⟨h1,h2,hF,hL⟩ | ⟨h1,h2,hF,hL⟩ | ⟨h1,h2,hF,hL⟩ | ⟨h1,h2,hF,hL⟩ | ⟨h1,h2,hF,hL⟩
   all_goals simp only [kx,gn,hF,eP,if_pos hb,fh]
   all_goals simp
  ·rcases dm a with⟨h1,hF,hL⟩ | ⟨h1,hF,hL⟩ | ⟨h1,h2,hF,hL⟩ | ⟨h1,h2,hF,hL⟩ | ⟨h1,h2,hF,hL⟩ | ⟨h1,h2,hF,hL⟩ | ⟨h1,h2,hF,hL⟩
   all_goals simp only [kx,gn,dD,hF,hL,eP,if_neg hb,gp,yU,y8,fh]
   all_goals (try simp [p8,uf])
   all_goals (try refine⟨?_, ?_⟩)
   all_goals (repeat' split)
   all_goals first
    | omega
    | (rw [dT];simp only [aB,fc,decide_eq_true_eq,ax,decide_eq_false_iff_not];omega)
    | simp
 | [a,b,c] =>
  by_cases hb:b<128∨191<b
  ·rw [p9 (r:=[c]) a hb]
   rcases dm a with⟨h1,hF,hL⟩ | ⟨h1,hF,hL⟩ | ⟨h1,h2,hF,hL⟩ | ⟨h1,h2,hF,hL⟩ | ⟨h1,h2,hF,hL⟩ | ⟨h1,h2,hF,hL⟩ | ⟨h1,h2,hF,hL⟩
   all_goals simp only [kx,gn,hF,eP,if_pos hb,fh]
   all_goals simp
  ·by_cases hc:c<128∨191<c
   ·have hk:dD [a,b,c]=0:=by
     rw [dD,gp,gp]
     have e:(decide (128≤c)&&(decide (c≤191)&&gp 128 191 []))=false:=by
      rcases hc with hc | hc
      ·simp;omega
      ·simp;omega
     rw [e]
     simp
    rw [hk]
    rcases dm a with⟨h1,hF,hL⟩ | ⟨h1,hF,hL⟩ | ⟨h1,h2,hF,hL⟩ | ⟨h1,h2,hF,hL⟩ | ⟨h1,h2,hF,hL⟩ | ⟨h1,h2,hF,hL⟩ | ⟨h1,h2,hF,hL⟩
    all_goals simp only [kx,gn,hF,eP,if_neg hb,if_pos hc,fh]
    all_goals simp
   ·rcases dm a with⟨h1,hF,hL⟩ | ⟨h1,hF,hL⟩ | ⟨h1,h2,hF,hL⟩ | ⟨h1,h2,hF,hL⟩ | ⟨h1,h2,hF,hL⟩ | ⟨h1,h2,hF,hL⟩ | ⟨h1,h2,hF,hL⟩
    all_goals simp only [kx,gn,dD,hF,hL,eP,if_neg hb,if_neg hc,gp,yU,y8,fh]
    all_goals (try simp [p8,uf])
    all_goals (try refine⟨?_, ?_⟩)
    all_goals (repeat' split)
    all_goals first
     | omega
     | (rw [dT];simp only [aB,fc,decide_eq_true_eq,ax,decide_eq_false_iff_not];omega)
     | simp
 | [a,b,c,d] =>
  by_cases hb:b<128∨191<b
  ·rw [p9 (r:=[c,d]) a hb]
   rcases dm a with⟨h1,hF,hL⟩ | ⟨h1,hF,hL⟩ | ⟨h1,h2,hF,hL⟩ | ⟨h1,h2,hF,hL⟩ | ⟨h1,h2,hF,hL⟩ | ⟨h1,h2,hF,hL⟩ | ⟨h1,h2,hF,hL⟩
   all_goals simp only [kx,gn,hF,eP,if_pos hb,fh]
   all_goals simp
  ·by_cases hc:c<128∨191<c
   ·have hk:dD [a,b,c,d]=0:=by
     rw [dD,gp,gp]
     have e:(decide (128≤c)&&(decide (c≤191)&&gp 128 191 [d]))=false:=by
      rcases hc with hc | hc
      ·simp;omega
      ·simp;omega
     rw [e]
     simp
    rw [hk]
    rcases dm a with⟨h1,hF,hL⟩ | ⟨h1,hF,hL⟩ | ⟨h1,h2,hF,hL⟩ | ⟨h1,h2,hF,hL⟩ | ⟨h1,h2,hF,hL⟩ | ⟨h1,h2,hF,hL⟩ | ⟨h1,h2,hF,hL⟩
    all_goals simp only [kx,gn,hF,eP,if_neg hb,if_pos hc,fh]
    all_goals simp
   ·by_cases hd:d<128∨191<d
    ·have hk:dD [a,b,c,d]=0:=by
      rw [dD,gp,gp,gp]
      have e:(decide (128≤d)&&(decide (d≤191)&&gp 128 191 []))=false:=by
       rcases hd with hd | hd
       ·simp;omega
       ·simp;omega
      rw [e]
      simp
     rw [hk]
     rcases dm a with⟨h1,hF,hL⟩ | ⟨h1,hF,hL⟩ | ⟨h1,h2,hF,hL⟩ | ⟨h1,h2,hF,hL⟩ | ⟨h1,h2,hF,hL⟩ | ⟨h1,h2,hF,hL⟩ | ⟨h1,h2,hF,hL⟩
     all_goals simp only [kx,gn,hF,eP,if_neg hb,if_neg hc,if_pos hd,fh]
     all_goals simp
    ·rcases dm a with⟨h1,hF,hL⟩ | ⟨h1,hF,hL⟩ | ⟨h1,h2,hF,hL⟩ | ⟨h1,h2,hF,hL⟩ | ⟨h1,h2,hF,hL⟩ | ⟨h1,h2,hF,hL⟩ | ⟨h1,h2,hF,hL⟩
     all_goals simp only [kx,gn,dD,hF,hL,eP,if_neg hb,if_neg hc,if_neg hd,gp,yU,y8,fh]
     all_goals (try simp [p8,uf])
     all_goals (try refine⟨?_, ?_⟩)
     all_goals (repeat' split)
     all_goals first
      | omega
      | (rw [dT];simp only [aB,fc,decide_eq_true_eq,ax,decide_eq_false_iff_not];omega)
      | simp
 | a::b::c::d::e::r =>
  have hl:jR a≤4:=by
   unfold jR;repeat' split
   all_goals omega
  have hf:(cQ a).1≤4:=by
   unfold cQ;repeat' split
   all_goals simp
  have hk:dD (a::b::c::d::e::r)=0:=by
   rw [dD,if_pos (by simp;omega)]
  have hs:gn (a::b::c::d::e::r)=(0,0,0):=by
   rw [gn]
   cases eP ((cQ a).1 - 1) (b::c::d::e::r) (cQ a).2 (cQ a).2 with
   | none=>rfl
   | some q=>simp only [];rw [if_pos (by simp;omega)]
  rw [hk]
  simp [kx,hs]
theorem xQ {lo hi:Nat}{l:List Nat} (h:gp lo hi l=true) (h1:128≤lo) (h2:hi≤191):∀ x∈l,128≤x∧x≤191:=by
 induction l generalizing lo hi with
 | nil=>intro x hx;cases hx
 | cons b r ih =>
  simp only [gp,aB,decide_eq_true_eq] at h
  intro x hx
  rcases dj.1 hx with rfl | hx
  ·omega
  ·exact ih h.2.2 (bg _) (bg _) x hx
theorem DM (a:Nat):128≤yU a:=by
 unfold yU
 repeat' split
 all_goals omega
theorem DU (a:Nat):y8 a≤191:=by
 unfold y8
 repeat' split
 all_goals omega
theorem qJ {a:Nat}{r:List Nat} (h:dD (a::r)=2):jR a=r.length+1∧∀ x∈r,128≤x∧x≤191:=by
 rw [dD] at h
 split at h
 ·cases h
 ·split at h
  ·next hc =>
   split at h
   ·cases h
   ·exact⟨by omega,xQ hc (DM a) (DU a)⟩
  ·cases h
theorem A4 {p:List Nat} (h:dD p=2):(gn p).1=iY p:=by
 match p with
 | []=>rfl
 | [a] =>
  obtain⟨h1,_⟩:=qJ h
  rcases dm a with⟨h2,hF,hL⟩ | ⟨h2,hF,hL⟩ | ⟨h2,h3,hF,hL⟩ | ⟨h2,h3,hF,hL⟩ | ⟨h2,h3,hF,hL⟩ | ⟨h2,h3,hF,hL⟩ | ⟨h2,h3,hF,hL⟩
  all_goals (rw [hL] at h1;simp at h1)
  simp [gn,hF,eP,iY]
 | [a,b] =>
  obtain⟨h1,hb⟩:=qJ h
  have hb:=hb b (by simp)
  have nb:¬ (b<128∨191<b):=by omega
  rcases dm a with⟨h2,hF,hL⟩ | ⟨h2,hF,hL⟩ | ⟨h2,h3,hF,hL⟩ | ⟨h2,h3,hF,hL⟩ | ⟨h2,h3,hF,hL⟩ | ⟨h2,h3,hF,hL⟩ | ⟨h2,h3,hF,hL⟩
  all_goals (rw [hL] at h1;simp at h1)
  simp only [gn,hF,eP,if_neg nb,iY]
  simp
  omega
 | [a,b,c] =>
  obtain⟨h1,hb⟩:=qJ h
  have hc:=hb c (by simp)
  have hb:=hb b (by simp)
  have nb:¬ (b<128∨191<b):=by omega
  have nc:¬ (c<128∨191<c):=by omega
  rcases dm a with⟨h2,hF,hL⟩ | ⟨h2,hF,hL⟩ | ⟨h2,h3,hF,hL⟩ | ⟨h2,h3,hF,hL⟩ | ⟨h2,h3,hF,hL⟩ | ⟨h2,h3,hF,hL⟩ | ⟨h2,h3,hF,hL⟩
  all_goals (rw [hL] at h1;simp at h1)
  simp only [gn,hF,eP,if_neg nb,if_neg nc,iY,fh]
  simp
  omega
 | [a,b,c,d] =>
  obtain⟨h1,hb⟩:=qJ h
  have hc:=hb c (by simp)
  have hd:=hb d (by simp)
  have hb:=hb b (by simp)
  have nb:¬ (b<128∨191<b):=by omega
  have nc:¬ (c<128∨191<c):=by omega
  have nd:¬ (d<128∨191<d):=by omega
  rcases dm a with⟨h2,hF,hL⟩ | ⟨h2,hF,hL⟩ | ⟨h2,h3,hF,hL⟩ | ⟨h2,h3,hF,hL⟩ | ⟨h2,h3,hF,hL⟩ | ⟨h2,h3,hF,hL⟩ | ⟨h2,h3,hF,hL⟩
  all_goals (rw [hL] at h1;simp at h1)
  simp only [gn,hF,eP,if_neg nb,if_neg nc,if_neg nd,iY,fh]
  simp
  omega
 | a::b::c::d::e::r =>
  obtain⟨h1,_⟩:=qJ h
  rcases dm a with⟨h2,hF,hL⟩ | ⟨h2,hF,hL⟩ | ⟨h2,h3,hF,hL⟩ | ⟨h2,h3,hF,hL⟩ | ⟨h2,h3,hF,hL⟩ | ⟨h2,h3,hF,hL⟩ | ⟨h2,h3,hF,hL⟩
  all_goals (rw [hL] at h1;simp at h1)
def fM (p:List Nat):Bool:=decide (p=[])||decide (dD p=1)
def g8 (b:Nat):List Nat × List Nat:=if dD [b]=2 then ([],[iY [b]]) else if dD [b]=1 then ([b],[]) else ([],[65533])
def eh (p:List Nat) (b:Nat):List Nat × List Nat :=
 if dD (p++[b])=2 then ([],[iY (p++[b])]) else if dD (p++[b])=1 then (p++[b],[]) else if p=[] then ([],[65533]) else ((g8 b).1,65533::(g8 b).2)
def hH (p:List Nat):List Nat:=if p=[] then [] else [65533]
def lV:List Nat→List Nat→List Nat
 | p,[]=>hH p
 | p,b::s=>(eh p b).2++lV (eh p b).1 s
def Eo (s:List Nat):List Nat:=lV [] s
theorem Ba:fM []=true:=rfl
theorem wK (b:Nat):fM (g8 b).1=true:=by
 unfold g8
 split
 ·rfl
 ·split
  ·next h=>simp [fM,h]
  ·rfl
theorem qy (p:List Nat) (b:Nat):fM (eh p b).1=true:=by
 unfold eh
 split
 ·rfl
 ·split
  ·next h=>simp [fM,h]
  ·split
   ·rfl
   ·exact wK b
theorem LP {a:Nat}{r:List Nat} (h:dD (a::r)=1):r.length+1<jR a∧jR a≤4∧∀ x∈r,128≤x∧x≤191:=by
 have h4:jR a≤4:=by
  unfold jR
  repeat' split
  all_goals omega
 rw [dD] at h
 split at h
 ·cases h
 ·split at h
  ·next hc =>
   split at h
   ·next h2=>exact⟨h2,h4,xQ hc (DM a) (DU a)⟩
   ·cases h
  ·cases h
theorem nw {p:List Nat} (h:fM p=true):p.length≤3:=by
 cases p with
 | nil=>simp
 | cons a r =>
  simp only [fM,fc,decide_eq_true_eq] at h
  rcases h with h | h
  ·cases h
  ·obtain⟨h1,h2,_⟩:=LP h
   simp;omega
def tt (cp:Nat):Bool:=decide (cp≤1114111)&&!(decide (55296≤cp)&&decide (cp≤57343))
def kK (cp:Nat):List Nat :=
 if cp<128 then [cp] else if cp<2048 then [192+cp / 64,128+cp % 64] else if cp<65536 then [224+cp / 4096,128+cp / 64 % 64,128+cp % 64] else [240+cp / 262144,128+cp / 4096 % 64,128+cp / 64 % 64,128+cp % 64]
def tF (cp:Nat):List Nat:=kK (if tt cp then cp else 65533)
def H6 (l:List Nat):List Nat:=l.flatMap tF
theorem t7 (cp:Nat) (h:cp≤1114111):∀ x∈kK cp,x<256:=by
 unfold kK
 intro x hx
 repeat' split at hx
 all_goals (simp at hx;omega)
theorem Bh (cp:Nat):∀ x∈tF cp,x<256:=by
 unfold tF
 split
 ·next h=>exact t7 cp (by simp [tt] at h;omega)
 ·exact t7 _ (by omega)
def By (x:Nat):AV:=.int .u8 x
def Co (x:Nat):AV:=.int .i64 x
@[go_sem] theorem By.plainL (l:List Nat):plainL (l.map By)=true:=gk (fun _=>rfl) l
@[go_sem] theorem By.ltL (l:List Nat) (n:Nat):ltL n (l.map By)=true:=dC.2 fun x hx=>by obtain⟨y,_,rfl⟩:=aX.1 hx;rfl
@[go_sem] theorem By.ok (l:List Nat):dz 1 (l.map By)=true:=by
 unfold dz;rw [aF];intro x hx;obtain⟨y,_,rfl⟩:=aX.1 hx;rfl
@[go_sem] theorem Co.plainL (l:List Nat):plainL (l.map Co)=true:=gk (fun _=>rfl) l
@[go_sem] theorem Co.ltL (l:List Nat) (n:Nat):ltL n (l.map Co)=true:=dC.2 fun x hx=>by obtain⟨y,_,rfl⟩:=aX.1 hx;rfl
@[go_sem] theorem Co.ok (l:List Nat):dz 1 (l.map Co)=true:=by
 unfold dz;rw [aF];intro x hx;obtain⟨y,_,rfl⟩:=aX.1 hx;rfl
def gB (c:Int):AV:=.int .i64 c
@[go_sem] theorem gB.plainL (l:List Int):plainL (l.map gB)=true:=gk (fun _=>rfl) l
@[go_sem] theorem gB.ltL (l:List Int) (n:Nat):ltL n (l.map gB)=true:=dC.2 fun x hx=>by obtain⟨y,_,rfl⟩:=aX.1 hx;rfl
@[go_sem] theorem gB.ok (l:List Int):dz 1 (l.map gB)=true:=by
 unfold dz;rw [aF];intro x hx;obtain⟨y,_,rfl⟩:=aX.1 hx;rfl
def dA (s:List Int):AV:=.agg [.sval false (s.map gB)]
theorem B6 (s:List Int):(dA s).plain=true:=by simp only [dA,go_sem,gB.plainL]
theorem KU (n:Nat) (s:List Int):(dA s).lt n=true:=by simp only [dA,go_sem,gB.ltL]
@[go_sem] theorem dA.plainL (l:List (List Int)):plainL (l.map dA)=true:=gk B6 l
@[go_sem] theorem dA.ltL (l:List (List Int)) (n:Nat):ltL n (l.map dA)=true:=dC.2 fun x hx=>by obtain⟨y,_,rfl⟩:=aX.1 hx;exact KU n y
@[go_sem] theorem dA.ok (l:List (List Int)):dz 1 (l.map dA)=true:=by
 unfold dz;rw [aF];intro x hx;obtain⟨y,_,rfl⟩:=aX.1 hx;rfl
attribute [go_sem] dA gB
def nf (n:Int):Bool:=decide (n < -1)||decide (9999<n)
def jJ (s:List Int):Bool:=s.length==0||(decide (6<s.length)||s.any nf)
def ep (l:List (List Int)):Bool:=decide (l.length≤16)&&(!(l==[[-1]])&&!l.any jJ)
def tI (l:List (List Int)):Int:=if ep l then 0 else 150
theorem LA (w0:World) (S:List aH) (n:Int) (R:Rt) (h:R (.ret (.bool (nf n))) S):az Tryz.prog w0 78 [.int .i64 n] S R:=by
 unfold nf at h
 cases hd:decide (n < -1)<;>rw [hd] at h
 all_goals
  refine eN Tryz.func78 rfl Tryz.ntmps78 fun hO=>?_
  repeat' first | refine st ?_ | (refine br ?_ ?_<;>intro hb) | fail
  refine fR Tryz.results78 ?_
  first | exact h | (simpa using h)
theorem rP {α:Type}{p:α→Bool}{l:List α}{k:Nat}{x:α} (hx:l[k]? = some x) (h:(l.take k).any p=false) (hp:p x=false):(l.take (k+1)).any p=false:=by
 rw [pI,hx]
 simp [h,hp]
theorem we {α:Type}{p:α→Bool}{l:List α}{k:Nat}{x:α} (hx:l[k]? = some x) (hp:p x=true):l.any p=true :=
 List.any_eq_true.2 ⟨x,aI hx,hp⟩
theorem F9 (w0:World) (S:List aH) (s:List Int) (hs:s.length≤1000000) (R:Rt) (h:∀ i:Int,decide (0≤i)=s.any nf→R (.ret (.int .i64 i)) S):az Tryz.prog w0 159 [.sval false (s.map gB),.fn (.func 78) [] []] S R:=by
 have hb:=LA w0
 refine eN Tryz.func159 rfl Tryz.ntmps159 fun hO=>?_
 repeat' first | refine st ?_ | (refine br ?_ ?_<;>intro hb) | fail
 refine dX (fun (k:Nat) env S'=>k≤s.length∧(s.take k).any nf=false∧env 1000000=.dfr []∧env 0=.sval false (s.map gB)∧env 1=.fn (.func 78) [] []∧env 7=.int .i64 s.length∧env 8=.int .i64 (k:Int)∧S'=S) (fun k=>s.length - k) 0 ?_ ?_
 ·exact⟨bI _,by simp,ss,ss,ss,ss,ss,rfl⟩
 ·rintro k env S' ⟨hk,hp,e0,f0,f1,f7,f8,rfl⟩ IH
  have HI:=au IH
  have H:=au h
  clear IH h
  by_cases hlt:k<s.length
  ·obtain⟨x,hx⟩:∃ x,s[k]? = some x:=⟨_,aC hlt⟩
   have h1:decide ((k:Int)<(s.length:Int))=true:=by simpa using hlt
   have hw:ar.wrap ((k:Int)+1)=((k+1:Nat):Int):=by rw [ay _ (by omega)];omega
   have hpx:=hb
   cases hbx:nf x with
   | true =>
    have hh:=H.out (k:Int) (by rw [we hx hbx];simp)
    have hb':=fun S'=>hb S' x
    rw [hbx] at hb'
    clear hk hp hlt HI hb hpx
    repeat' first | refine st ?_ | (refine ca ?_;apply hb') | (refine br ?_ ?_<;>intro hb) | fail
    refine fR Tryz.results159 ?_
    exact hh
   | false =>
    have hb':=fun S'=>hb S' x
    rw [hbx] at hb'
    have Hn:=au (rP hx hp hbx)
    have Hlt:=au hlt
    clear hk hp hlt hb hpx hbx
    repeat' first | refine st ?_ | (refine ca ?_;apply hb') | (refine br ?_ ?_<;>intro hb) | fail
    refine HI.out (k+1) _ _ (by have:=Hlt.out;omega) ⟨Hlt.out,Hn.out, ?_, ?_, ?_, ?_, ?_,rfl⟩
    all_goals (simp only [go_sem, *];try rfl)
  ·have h1:decide ((k:Int)<(s.length:Int))=false:=by simpa using hlt
   have hk':k=s.length:=by omega
   rw [hk',bQ] at hp
   have hh:=H.out (-1) (by rw [hp];decide)
   clear hlt hk hk' HI hp
   repeat' first | refine st ?_ | (refine br ?_ ?_<;>intro hb) | fail
   refine fR Tryz.results159 ?_
   exact hh
theorem JZ (w0:World) (S:List aH) (s:List Int) (hs:s.length≤1000000) (R:Rt) (h:R (.ret (.bool (s.any nf))) S):az Tryz.prog w0 77 [.sval false (s.map gB),.fn (.func 78) [] []] S R:=by
 have hi:=fun S'=>F9 w0 S' s hs
 generalize s.any nf=b at h hi
 refine eN Tryz.func77 rfl Tryz.ntmps77 fun hO=>?_
 repeat' first | refine st ?_ | (refine ca ?_;apply hi) | (refine br ?_ ?_<;>intro hb) | fail
 intro i hi2
 repeat' first | refine st ?_ | (refine br ?_ ?_<;>intro hb) | fail
 refine fR Tryz.results77 ?_
 exact h
theorem Lz (w0:World) (S:List aH) (s:List Int) (hs:s.length≤1000000) (R:Rt) (h:R (.ret (.bool (jJ s))) S):az Tryz.prog w0 76 [dA s] S R:=by
 have hc:=fun S'=>JZ w0 S' s hs
 unfold jJ at h
 unfold dA
 have e1:((s.length:Int)==0)=(s.length==0):=by rw [dT];simp
 have e2:decide ((6:Int)<(s.length:Int))=decide (6<s.length):=by rw [dT];simp;omega
 cases d1:s.length==0<;>cases d2:decide (6<s.length)<;>rw [d1,d2] at h<;>rw [d1] at e1<;>rw [d2] at e2<;>clear d1 d2 hs
 all_goals
  refine eN Tryz.func76 rfl Tryz.ntmps76 fun hO=>?_
  repeat' first | refine st ?_ | (refine ca ?_;apply hc) | (refine br ?_ ?_<;>intro hb) | fail
  refine fR Tryz.results76 ?_
  first | exact h | (simpa using h)
theorem F7 (w0:World) (S:List aH) (l:List (List Int)) (hl:l.length≤1000000) (hs:∀ s∈l,s.length≤1000000) (R:Rt) (h:∀ i:Int,decide (0≤i)=l.any jJ→R (.ret (.int .i64 i)) S):az Tryz.prog w0 160 [.sval false (l.map dA),.fn (.func 76) [] []] S R:=by
 have hb:=Lz w0
 have Hs:=au hs
 clear hs
 refine eN Tryz.func160 rfl Tryz.ntmps160 fun hO=>?_
 repeat' first | refine st ?_ | (refine br ?_ ?_<;>intro hb) | fail
 refine dX (fun (k:Nat) env S'=>k≤l.length∧(l.take k).any jJ=false∧env 1000000=.dfr []∧env 0=.sval false (l.map dA)∧env 1=.fn (.func 76) [] []∧env 7=.int .i64 l.length∧env 8=.int .i64 (k:Int)∧S'=S) (fun k=>l.length - k) 0 ?_ ?_
 ·exact⟨bI _,by simp,ss,ss,ss,ss,ss,rfl⟩
 ·rintro k env S' ⟨hk,hp,e0,f0,f1,f7,f8,rfl⟩ IH
  have HI:=au IH
  have H:=au h
  clear IH h
  by_cases hlt:k<l.length
  ·obtain⟨x,hx⟩:∃ x,l[k]? = some x:=⟨_,aC hlt⟩
   have h1:decide ((k:Int)<(l.length:Int))=true:=by simpa using hlt
   have hw:ar.wrap ((k:Int)+1)=((k+1:Nat):Int):=by rw [ay _ (by omega)];omega
   have hb':=fun S'=>hb S' x (Hs.out x (aI hx))
   unfold dA at hb'
   cases hbx:jJ x with
   | true =>
    have hh:=H.out (k:Int) (by rw [we hx hbx];simp)
    rw [hbx] at hb'
    clear hk hp hlt HI hb hl
    repeat' first | refine st ?_ | (refine ca ?_;apply hb') | (refine br ?_ ?_<;>intro hb) | fail
    refine fR Tryz.results160 ?_
    exact hh
   | false =>
    rw [hbx] at hb'
    have Hn:=au (rP hx hp hbx)
    have Hlt:=au hlt
    clear hk hp hlt hb hbx
    repeat' first | refine st ?_ | (refine ca ?_;apply hb') | (refine br ?_ ?_<;>intro hb) | fail
    refine HI.out (k+1) _ _ (by have:=Hlt.out;omega) ⟨Hlt.out,Hn.out, ?_, ?_, ?_, ?_, ?_,rfl⟩
    all_goals (simp only [go_sem, *];try rfl)
  ·have h1:decide ((k:Int)<(l.length:Int))=false:=by simpa using hlt
   have hk':k=l.length:=by omega
   rw [hk',bQ] at hp
   have hh:=H.out (-1) (by rw [hp];decide)
   clear hlt hk hk' HI hp
   repeat' first | refine st ?_ | (refine br ?_ ?_<;>intro hb) | fail
   refine fR Tryz.results160 ?_
   exact hh
theorem JY (w0:World) (S:List aH) (l:List (List Int)) (hl:l.length≤1000000) (hs:∀ s∈l,s.length≤1000000) (R:Rt) (h:R (.ret (.bool (l.any jJ))) S):az Tryz.prog w0 80 [.sval false (l.map dA),.fn (.func 76) [] []] S R:=by
 have hi:=fun S'=>F7 w0 S' l hl hs
 generalize l.any jJ=b at h hi
 clear hs
 refine eN Tryz.func80 rfl Tryz.ntmps80 fun hO=>?_
 repeat' first | refine st ?_ | (refine ca ?_;apply hi) | (refine br ?_ ?_<;>intro hb) | fail
 intro i hi2
 repeat' first | refine st ?_ | (refine br ?_ ?_<;>intro hb) | fail
 refine fR Tryz.results80 ?_
 exact h
theorem FI {l:List (List Int)} (h:l.length=1):∃ s,l=[s]:=jL.1 h
theorem GG {l:List Int} (h:l.length=1):∃ s,l=[s]:=jL.1 h
theorem A_ (l:List (List Int)):(((l.length:Int)==1)=false∧(l==[[-1]])=false)∨∃ s,l=[s]∧(((s.length:Int)==1)=false∧(l==[[-1]])=false∨∃ n,s=[n]∧(l==[[-1]])=(n==-1)):=by
 by_cases h:l.length=1
 ·right
  obtain⟨s,rfl⟩:=FI h
  refine⟨s,rfl, ?_⟩
  by_cases h2:s.length=1
  ·right
   obtain⟨n,rfl⟩:=GG h2
   exact⟨n,rfl,by simp⟩
  ·left
   refine⟨by rw [beq_eq_false_iff_ne];omega, ?_⟩
   rw [beq_eq_false_iff_ne]
   intro e
   simp at e
   rw [e] at h2
   exact h2 rfl
 ·left
  refine⟨by rw [beq_eq_false_iff_ne];omega, ?_⟩
  rw [beq_eq_false_iff_ne]
  intro e
  rw [e] at h
  exact h rfl
theorem JX (w0:World) (S:List aH) (l:List (List Int)) (R:Rt) (h:R (.ret (.bool (l==[[-1]]))) S):az Tryz.prog w0 79 [.sval false (l.map dA)] S R:=by
 have e0:(((1:Nat):Int)==1)=true:=by decide
 rcases A_ l with⟨e1,e2⟩ | ⟨s,rfl,⟨e1,e2⟩ | ⟨n,rfl,e2⟩⟩
 ·rw [e2] at h
  clear e2
  refine eN Tryz.func79 rfl Tryz.ntmps79 fun hO=>?_
  repeat' first | refine st ?_ | (refine br ?_ ?_<;>intro hb) | fail
  refine fR Tryz.results79 ?_
  exact h
 ·rw [e2] at h
  clear e2
  simp only [aG,aL,dA]
  refine eN Tryz.func79 rfl Tryz.ntmps79 fun hO=>?_
  repeat' first | refine st ?_ | (refine br ?_ ?_<;>intro hb) | fail
  refine fR Tryz.results79 ?_
  exact h
 ·rw [e2] at h
  clear e2
  simp only [aG,aL,dA,gB]
  refine eN Tryz.func79 rfl Tryz.ntmps79 fun hO=>?_
  repeat' first | refine st ?_ | (refine br ?_ ?_<;>intro hb) | fail
  refine fR Tryz.results79 ?_
  exact h
theorem G6 (a b:Nat):decide ((a:Int)<(b:Int))=decide (a<b):=by rw [dT];simp
def oI (l:List (List Int)):Prop:=l.length≤1000000∧∀ s∈l,s.length≤1000000
theorem p4 (w0:World) (S:List aH) (l:List (List Int)) (hl:oI l) (R:Rt) (h:R (.ret (.int .i64 (tI l))) S):az Tryz.prog w0 36 [.sval false (l.map dA)] S R:=by
 have hc:=fun S'=>JY w0 S' l hl.1 hl.2
 have he:=fun S'=>JX w0 S' l
 unfold tI ep at h
 have e2:decide ((16:Int)<(l.length:Int))=decide (16<l.length):=G6 16 l.length
 have e3:decide (l.length≤16) = !decide (16<l.length):=by rw [dT];simp
 rw [e3] at h
 cases d1:decide (16<l.length)<;>cases d2:l==[[-1]]<;>cases d3:l.any jJ<;>rw [d1,d2,d3] at h<;>rw [d1] at e2<;>rw [d2] at he<;>rw [d3] at hc<;>clear d1 d2 d3 e3 hl
 all_goals
  refine eN Tryz.func36 rfl Tryz.ntmps36 fun hO=>?_
  repeat' first | refine st ?_ | (refine ca ?_;first | apply hc | apply he) | (refine br ?_ ?_<;>intro hb) | fail
  refine fR Tryz.results36 ?_
  exact h
def eE (l:List (List Int)) (i none:Int):Int :=
 if i<0 then none else match l[i.toNat]? with
  | some (n::_)=>if n<0 then none else n
  | _=>none
theorem pN (w0:World) (S:List aH) (l:List (List Int)) (i none:Int) (R:Rt) (h:R (.ret (.int .i64 (eE l i none))) S):az Tryz.prog w0 142 [.sval false (l.map dA),.int .i64 i,.int .i64 none] S R∧az Tryz.prog w0 126 [.sval false (l.map dA),.int .i64 i,.int .i64 none] S R:=by
 unfold eE at h
 by_cases h0:i<0
 ·rw [if_pos h0] at h
  have d0:decide (i<0)=true:=decide_eq_true h0
  clear h0
  constructor
  ·refine eN Tryz.func142 rfl Tryz.ntmps142 fun hO=>?_
   repeat' first | refine st ?_ | (refine br ?_ ?_<;>intro hb) | fail
   refine fR Tryz.results142 ?_
   exact h
  ·refine eN Tryz.func126 rfl Tryz.ntmps126 fun hO=>?_
   repeat' first | refine st ?_ | (refine br ?_ ?_<;>intro hb) | fail
   refine fR Tryz.results126 ?_
   exact h
 ·rw [if_neg h0] at h
  obtain⟨k,rfl⟩:∃ k:Nat,i=(k:Int):=⟨i.toNat,by omega⟩
  rw [Int.toNat_natCast] at h
  have d0:decide ((k:Int)<0)=false:=decide_eq_false h0
  cases hx:l[k]? with
  | none =>
   rw [hx] at h
   have d1:decide ((l.length:Int)≤(k:Int))=true:=by simp;simpa using hx
   clear h0 hx
   constructor
   ·refine eN Tryz.func142 rfl Tryz.ntmps142 fun hO=>?_
    repeat' first | refine st ?_ | (refine br ?_ ?_<;>intro hb) | fail
    refine fR Tryz.results142 ?_
    exact h
   ·refine eN Tryz.func126 rfl Tryz.ntmps126 fun hO=>?_
    repeat' first | refine st ?_ | (refine br ?_ ?_<;>intro hb) | fail
    refine fR Tryz.results126 ?_
    exact h
  | some s =>
   rw [hx] at h
   have hk:k<l.length:=(aw.1 hx).1
   have d1:decide ((l.length:Int)≤(k:Int))=false:=by simp;omega
   clear h0 hk
   cases s with
   | nil =>
    have e0:(((0:Nat):Int)==0)=true:=by decide
    constructor
    ·refine eN Tryz.func142 rfl Tryz.ntmps142 fun hO=>?_
     repeat' first | refine st ?_ | (refine br ?_ ?_<;>intro hb) | fail
     refine fR Tryz.results142 ?_
     exact h
    ·refine eN Tryz.func126 rfl Tryz.ntmps126 fun hO=>?_
     repeat' first | refine st ?_ | (refine br ?_ ?_<;>intro hb) | fail
     refine fR Tryz.results126 ?_
     exact h
   | cons n s =>
    have e0:((((n::s).length:Nat):Int)==0)=false:=by rw [beq_eq_false_iff_ne];simp;omega
    simp only [ah] at e0
    simp only at h
    by_cases hn:n<0
    ·rw [if_pos hn] at h
     have d2:decide (n<0)=true:=decide_eq_true hn
     clear hn
     constructor
     ·refine eN Tryz.func142 rfl Tryz.ntmps142 fun hO=>?_
      repeat' first | refine st ?_ | (refine br ?_ ?_<;>intro hb) | fail
      refine fR Tryz.results142 ?_
      exact h
     ·refine eN Tryz.func126 rfl Tryz.ntmps126 fun hO=>?_
      repeat' first | refine st ?_ | (refine br ?_ ?_<;>intro hb) | fail
      refine fR Tryz.results126 ?_
      exact h
    ·rw [if_neg hn] at h
     have d2:decide (n<0)=false:=decide_eq_false hn
     clear hn
     constructor
     ·refine eN Tryz.func142 rfl Tryz.ntmps142 fun hO=>?_
      repeat' first | refine st ?_ | (refine br ?_ ?_<;>intro hb) | fail
      refine fR Tryz.results142 ?_
      exact h
     ·refine eN Tryz.func126 rfl Tryz.ntmps126 fun hO=>?_
      repeat' first | refine st ?_ | (refine br ?_ ?_<;>intro hb) | fail
      refine fR Tryz.results126 ?_
      exact h
theorem E0 (w0:World) (S:List aH) (b:Nat) (R:Rt) (h:R (.ret (.int .i64 (jR b:Nat))) S):az Tryz.prog w0 257 [.int .u8 b] S R:=by
 refine eN Tryz.func257 rfl Tryz.ntmps257 fun hO=>?_
 repeat' first | refine st ?_ | (refine br ?_ ?_<;>intro hb) | fail
 all_goals refine fR Tryz.results257 ?_
 all_goals
  refine cast (congrArg (fun v=>R (.ret (.int .i64 v)) S) ?_) h
  simp only [decide_eq_true_eq,decide_eq_false_iff_not] at *
  unfold jR
  repeat' split
  all_goals first | omega | rfl | decide
theorem rh (w0:World) (S:List aH) (b:Nat) (R:Rt) (h:R (.ret (.tup [.int .u8 (yU b:Nat),.int .u8 (y8 b:Nat)])) S):az Tryz.prog w0 258 [.int .u8 b] S R:=by
 refine eN Tryz.func258 rfl Tryz.ntmps258 fun hO=>?_
 repeat' first | refine st ?_ | (refine br ?_ ?_<;>intro hb) | fail
 all_goals refine fR Tryz.results258 ?_
 all_goals
  simp only [beq_iff_eq,beq_eq_false_iff_ne,ne_eq,decide_eq_true_eq,decide_eq_false_iff_not] at *
  have e1:(b=224)=((b:Int)=224):=by simp;omega
  have e2:(b=237)=((b:Int)=237):=by simp;omega
  have e3:(b=240)=((b:Int)=240):=by simp;omega
  have e4:(b=244)=((b:Int)=244):=by simp;omega
  unfold yU y8 at h
  simpa [e1,e2,e3,e4, *] using h
theorem CE (w0:World) (S:List aH) (cp:Nat) (R:Rt) (h:R (.ret (.bool (tt cp))) S):az Tryz.prog w0 45 [.int .i64 cp] S R:=by
 refine eN Tryz.func45 rfl Tryz.ntmps45 fun hO=>?_
 repeat' first | refine st ?_ | (refine br ?_ ?_<;>intro hb) | fail
 all_goals refine fR Tryz.results45 ?_
 all_goals
  have e:(cp:Int).fdiv (2 ^ min 11 64)=((cp / 2048:Nat):Int):=by
   rw [show (2:Int) ^ min 11 64=2048 by decide,zI _ (by omega)]
   omega
  refine cast (congrArg (fun v=>R (.ret (.bool v)) S) ?_) h
  simp only [decide_eq_true_eq,decide_eq_false_iff_not] at hb
  unfold tt
  first
  | (rw [dT,e];simp only [aB,decide_eq_true_eq,ax,fm,decide_eq_false_iff_not,bne_iff_ne,ne_eq];omega)
  | (rw [fm];left;simp only [decide_eq_false_iff_not];omega)
theorem H4 (w0:World) (S:List aH) (p:List Nat) (h1:p≠[]) (h4:p.length≤4) (R:Rt) (h:R (.ret (.int .i64 (dD p:Nat))) S):az Tryz.prog w0 212 [.sval false (p.map By)] S R:=by
 match p,h1,h4 with
 | [a],_,_ =>
  have hl:=fun S'=>E0 w0 S' a
  have hs:=fun S'=>rh w0 S' a
  obtain⟨n,hn⟩:∃ n,jR a=n:=⟨_,rfl⟩
  obtain⟨lo,hlo⟩:∃ n,yU a=n:=⟨_,rfl⟩
  obtain⟨hi,hhi⟩:∃ n,y8 a=n:=⟨_,rfl⟩
  have hk:dD [a]=if n<([]:List Nat).length+1 then 0 else if gp lo hi ([]:List Nat) then (if ([]:List Nat).length+1<n then 1 else 2) else 0:=by rw [dD,hn,hlo,hhi]
  rw [hn] at hl
  rw [hlo,hhi] at hs
  simp only [aG,aL,By]
  clear h1 h4 hn hlo hhi
  have HK:=au hk
  clear hk
  refine eN Tryz.func212 rfl Tryz.ntmps212 fun hO=>?_
  repeat' first | refine st ?_ | (refine ca ?_;first | apply hl | apply hs) | (refine br ?_ ?_<;>intro hb) | apply cP | apply eg | fail
  all_goals refine fR Tryz.results212 ?_
  all_goals
   refine cast (congrArg (fun v=>R (.ret (.int .i64 v)) S) ?_) h
   rw [HK.out]
   simp only [gp,ah,aj,aB,decide_eq_true_eq,decide_eq_false_iff_not,lB,and_true] at *
   repeat' split
   all_goals first | omega | rfl | (exact absurd trivial (by assumption))
 | [a,b],_,_ =>
  have hl:=fun S'=>E0 w0 S' a
  have hs:=fun S'=>rh w0 S' a
  obtain⟨n,hn⟩:∃ n,jR a=n:=⟨_,rfl⟩
  obtain⟨lo,hlo⟩:∃ n,yU a=n:=⟨_,rfl⟩
  obtain⟨hi,hhi⟩:∃ n,y8 a=n:=⟨_,rfl⟩
  have hk:dD [a,b]=if n<([b]:List Nat).length+1 then 0 else if gp lo hi ([b]:List Nat) then (if ([b]:List Nat).length+1<n then 1 else 2) else 0:=by rw [dD,hn,hlo,hhi]
  rw [hn] at hl
  rw [hlo,hhi] at hs
  simp only [aG,aL,By]
  clear h1 h4 hn hlo hhi
  have HK:=au hk
  clear hk
  refine eN Tryz.func212 rfl Tryz.ntmps212 fun hO=>?_
  repeat' first | refine st ?_ | (refine ca ?_;first | apply hl | apply hs) | (refine br ?_ ?_<;>intro hb) | apply cP | apply eg | fail
  all_goals refine fR Tryz.results212 ?_
  all_goals
   refine cast (congrArg (fun v=>R (.ret (.int .i64 v)) S) ?_) h
   rw [HK.out]
   simp only [gp,ah,aj,aB,decide_eq_true_eq,decide_eq_false_iff_not,lB,and_true] at *
   repeat' split
   all_goals first | omega | rfl | (exact absurd trivial (by assumption))
 | [a,b,c],_,_ =>
  have hl:=fun S'=>E0 w0 S' a
  have hs:=fun S'=>rh w0 S' a
  obtain⟨n,hn⟩:∃ n,jR a=n:=⟨_,rfl⟩
  obtain⟨lo,hlo⟩:∃ n,yU a=n:=⟨_,rfl⟩
  obtain⟨hi,hhi⟩:∃ n,y8 a=n:=⟨_,rfl⟩
  have hk:dD [a,b,c]=if n<([b,c]:List Nat).length+1 then 0 else if gp lo hi ([b,c]:List Nat) then (if ([b,c]:List Nat).length+1<n then 1 else 2) else 0:=by rw [dD,hn,hlo,hhi]
  rw [hn] at hl
  rw [hlo,hhi] at hs
  simp only [aG,aL,By]
  clear h1 h4 hn hlo hhi
  have HK:=au hk
  clear hk
  refine eN Tryz.func212 rfl Tryz.ntmps212 fun hO=>?_
  repeat' first | refine st ?_ | (refine ca ?_;first | apply hl | apply hs) | (refine br ?_ ?_<;>intro hb) | apply cP | apply eg | fail
  all_goals refine fR Tryz.results212 ?_
  all_goals
   refine cast (congrArg (fun v=>R (.ret (.int .i64 v)) S) ?_) h
   rw [HK.out]
   simp only [gp,ah,aj,aB,decide_eq_true_eq,decide_eq_false_iff_not,lB,and_true] at *
   repeat' split
   all_goals first | omega | rfl | (exact absurd trivial (by assumption))
 | [a,b,c,d],_,_ =>
  have hl:=fun S'=>E0 w0 S' a
  have hs:=fun S'=>rh w0 S' a
  obtain⟨n,hn⟩:∃ n,jR a=n:=⟨_,rfl⟩
  obtain⟨lo,hlo⟩:∃ n,yU a=n:=⟨_,rfl⟩
  obtain⟨hi,hhi⟩:∃ n,y8 a=n:=⟨_,rfl⟩
  have hk:dD [a,b,c,d]=if n<([b,c,d]:List Nat).length+1 then 0 else if gp lo hi ([b,c,d]:List Nat) then (if ([b,c,d]:List Nat).length+1<n then 1 else 2) else 0:=by rw [dD,hn,hlo,hhi]
  rw [hn] at hl
  rw [hlo,hhi] at hs
  simp only [aG,aL,By]
  clear h1 h4 hn hlo hhi
  have HK:=au hk
  clear hk
  refine eN Tryz.func212 rfl Tryz.ntmps212 fun hO=>?_
  repeat' first | refine st ?_ | (refine ca ?_;first | apply hl | apply hs) | (refine br ?_ ?_<;>intro hb) | apply cP | apply eg | fail
  all_goals refine fR Tryz.results212 ?_
  all_goals
   refine cast (congrArg (fun v=>R (.ret (.int .i64 v)) S) ?_) h
   rw [HK.out]
   simp only [gp,ah,aj,aB,decide_eq_true_eq,decide_eq_false_iff_not,lB,and_true] at *
   repeat' split
   all_goals first | omega | rfl | (exact absurd trivial (by assumption))
theorem yv (w0:World) (S:List aH) (p:List Nat) (h4:p.length≤4) (R:Rt) (h:R (.ret (.bool (fM p))) S):az Tryz.prog w0 164 [.sval false (p.map By)] S R:=by
 by_cases hp:p=[]
 ·subst hp
  rw [Ba] at h
  simp only [aL]
  have e0:(((0:Nat):Int)==0)=true:=rfl
  clear h4
  refine eN Tryz.func164 rfl Tryz.ntmps164 fun hO=>?_
  repeat' first | refine st ?_ | (refine br ?_ ?_<;>intro hb) | fail
  refine fR Tryz.results164 ?_
  exact h
 ·have hk:=fun S'=>H4 w0 S' p hp h4
  have hl:((p.length:Int)==0)=false:=by
   rw [beq_eq_false_iff_ne]
   intro e
   exact hp (ib.1 (by omega))
  have hr:fM p=((dD p:Int)==1):=by
   unfold fM
   rw [decide_eq_false hp,kZ,dT,decide_eq_true_eq,beq_iff_eq]
   omega
  rw [hr] at h
  clear hr hp h4
  refine eN Tryz.func164 rfl Tryz.ntmps164 fun hO=>?_
  repeat' first | refine st ?_ | (refine ca ?_;apply hk) | (refine br ?_ ?_<;>intro hb) | fail
  refine fR Tryz.results164 ?_
  exact h
theorem A6 {c x:Nat} (hc:c<32768) (hx:x<64):ar.wrap (((aD ar.bits (ar.wrap ((c:Int) * 2 ^ min 6 64)) ||| aD ar.bits (x:Int)).toNat:Nat):Int)=((c * 64+x:Nat):Int):=by
 have e1:ar.wrap ((c:Int) * 2 ^ min 6 64)=((c * 64:Nat):Int):=by
  rw [show (2:Int) ^ min 6 64=64 by decide,ay _ (by omega)]
  omega
 rw [e1,HT]
 have e2:(aD ar.bits ((c * 64:Nat):Int)).toNat=c * 64:=by
  show (aD 64 _).toNat=_
  rw [cV];omega
 have e3:(aD ar.bits (x:Int)).toNat=x:=by
  show (aD 64 _).toNat=_
  rw [cV];omega
 rw [e2,e3]
 have e4:c * 64 ||| x=c * 64+x:=by
  have:=Nat.shiftLeft_add_eq_or_of_lt (b:=x) (i:=6) (by omega) c
  rw [Nat.shiftLeft_eq] at this
  exact this.symm
 rw [e4]
 exact ay _ (by omega)
theorem uF {b:Nat} (hb:b<256):ar.wrap (bo.wrap (((aD bo.bits (b:Int) &&& aD bo.bits 63).toNat:Nat):Int))=((b % 64:Nat):Int):=by
 rw [EV]
 have e1:(aD bo.bits (b:Int)).toNat=b:=by
  show (aD 8 _).toNat=_
  rw [cV];omega
 have e2:(aD bo.bits 63).toNat=63:=by decide
 rw [e1,e2,show b &&& 63=b % 64 from zD b 6,eo _ (by omega)]
 exact ay _ (by omega)
theorem KO {b k:Nat} (hb:b<256) (hk:k≤8):ar.wrap (((aD ar.bits (b:Int) &&& aD ar.bits ((2 ^ k - 1:Nat):Int)).toNat:Nat):Int)=((b % 2 ^ k:Nat):Int):=by
 rw [EV]
 have h2:2 ^ k≤2 ^ 8:=gx (by omega) hk
 have h0:0<2 ^ k:=Nat.two_pow_pos k
 have e1:(aD ar.bits (b:Int)).toNat=b:=by
  show (aD 64 _).toNat=_
  rw [cV];omega
 have e2:(aD ar.bits ((2 ^ k - 1:Nat):Int)).toNat=2 ^ k - 1:=by
  show (aD 64 _).toNat=_
  rw [cV];omega
 rw [e1,e2,zD b k]
 have:=fa b h0
 exact ay _ (by omega)
theorem K0 (w0:World) (S:List aH) (p:List Nat) (hk:dD p=2) (hb:∀ x∈p,x<256) (R:Rt) (h:R (.ret (.int .i64 (iY p:Nat))) S):az Tryz.prog w0 259 [.sval false (p.map By)] S R:=by
 match p with
 | []=>cases hk
 | [a] =>
  have h:R (.ret (.int .i64 a)) S:=h
  simp only [aG,aL,By]
  have ha:=hb a (by simp)
  have hw:ar.wrap (a:Int)=a:=ay _ (by omega)
  clear hb hk
  refine eN Tryz.func259 rfl Tryz.ntmps259 fun hO=>?_
  repeat' first | refine st ?_ | (refine br ?_ ?_<;>intro hb) | apply cP | apply eg | fail
  all_goals refine fR Tryz.results259 ?_
  exact h
 | [a,b] =>
  simp only [aG,aL,By]
  have ha:=hb a (by simp)
  have hw:ar.wrap (a:Int)=a:=ay _ (by omega)
  have gf:(255:Int).fdiv (2 ^ min (ar.wrap (((2:Nat):Int)+1)).toNat 64)=((2 ^ 5 - 1:Nat):Int):=by decide
  have ga:=KO (b:=a) (k:=5) ha (by omega)
  obtain⟨c0,hc0⟩:∃ c0,a % 2 ^ 5=c0:=⟨_,rfl⟩
  have hc0l:c0<32:=by rw [← hc0];exact fa _ (by decide)
  rw [hc0] at ga
  have gb:=uF (hb b (by simp))
  have mb:b % 64<64:=fa _ (by omega)
  have q1:=A6 (c:=c0) (x:=b % 64) (by omega) mb
  obtain⟨c1,hc1⟩:∃ cc,c0 * 64+b % 64=cc:=⟨_,rfl⟩
  have hc1l:c1<2048:=by omega
  rw [hc1] at q1
  have hcode:iY [a,b]=c1:=by
   have e:iY [a,b]=a % 2 ^ (7 - (1+1)) * 64+b % 64:=rfl
   rw [e]
   have e2:a % 2 ^ 5=a % (2 ^ (7 - (1+1))):=rfl
   omega
  rw [hcode] at h
  clear hb hk hcode ha
  simp only [bz] at ga gb q1
  refine eN Tryz.func259 rfl Tryz.ntmps259 fun hO=>?_
  repeat' first | refine st ?_ | (refine br ?_ ?_<;>intro hb) | apply cP | apply eg | fail
  all_goals refine fR Tryz.results259 ?_
  exact h
 | [a,b,c] =>
  simp only [aG,aL,By]
  have ha:=hb a (by simp)
  have hw:ar.wrap (a:Int)=a:=ay _ (by omega)
  have gf:(255:Int).fdiv (2 ^ min (ar.wrap (((3:Nat):Int)+1)).toNat 64)=((2 ^ 4 - 1:Nat):Int):=by decide
  have ga:=KO (b:=a) (k:=4) ha (by omega)
  obtain⟨c0,hc0⟩:∃ c0,a % 2 ^ 4=c0:=⟨_,rfl⟩
  have hc0l:c0<16:=by rw [← hc0];exact fa _ (by decide)
  rw [hc0] at ga
  have gb:=uF (hb b (by simp))
  have mb:b % 64<64:=fa _ (by omega)
  have q1:=A6 (c:=c0) (x:=b % 64) (by omega) mb
  obtain⟨c1,hc1⟩:∃ cc,c0 * 64+b % 64=cc:=⟨_,rfl⟩
  have hc1l:c1<1024:=by omega
  rw [hc1] at q1
  have gc:=uF (hb c (by simp))
  have mc:c % 64<64:=fa _ (by omega)
  have q2:=A6 (c:=c1) (x:=c % 64) (by omega) mc
  obtain⟨c2,hc2⟩:∃ cc,c1 * 64+c % 64=cc:=⟨_,rfl⟩
  have hc2l:c2<65536:=by omega
  rw [hc2] at q2
  have hcode:iY [a,b,c]=c2:=by
   have e:iY [a,b,c]=(a % 2 ^ (7 - (2+1)) * 64+b % 64) * 64+c % 64:=rfl
   rw [e]
   have e2:a % 2 ^ 4=a % (2 ^ (7 - (2+1))):=rfl
   omega
  rw [hcode] at h
  clear hb hk hcode ha
  simp only [bz] at ga gb q1 gc q2
  refine eN Tryz.func259 rfl Tryz.ntmps259 fun hO=>?_
  repeat' first | refine st ?_ | (refine br ?_ ?_<;>intro hb) | apply cP | apply eg | fail
  all_goals refine fR Tryz.results259 ?_
  exact h
 | [a,b,c,d] =>
  simp only [aG,aL,By]
  have ha:=hb a (by simp)
  have hw:ar.wrap (a:Int)=a:=ay _ (by omega)
  have gf:(255:Int).fdiv (2 ^ min (ar.wrap (((4:Nat):Int)+1)).toNat 64)=((2 ^ 3 - 1:Nat):Int):=by decide
  have ga:=KO (b:=a) (k:=3) ha (by omega)
  obtain⟨c0,hc0⟩:∃ c0,a % 2 ^ 3=c0:=⟨_,rfl⟩
  have hc0l:c0<8:=by rw [← hc0];exact fa _ (by decide)
  rw [hc0] at ga
  have gb:=uF (hb b (by simp))
  have mb:b % 64<64:=fa _ (by omega)
  have q1:=A6 (c:=c0) (x:=b % 64) (by omega) mb
  obtain⟨c1,hc1⟩:∃ cc,c0 * 64+b % 64=cc:=⟨_,rfl⟩
  have hc1l:c1<512:=by omega
  rw [hc1] at q1
  have gc:=uF (hb c (by simp))
  have mc:c % 64<64:=fa _ (by omega)
  have q2:=A6 (c:=c1) (x:=c % 64) (by omega) mc
  obtain⟨c2,hc2⟩:∃ cc,c1 * 64+c % 64=cc:=⟨_,rfl⟩
  have hc2l:c2<32768:=by omega
  rw [hc2] at q2
  have gd:=uF (hb d (by simp))
  have md:d % 64<64:=fa _ (by omega)
  have q3:=A6 (c:=c2) (x:=d % 64) (by omega) md
  obtain⟨c3,hc3⟩:∃ cc,c2 * 64+d % 64=cc:=⟨_,rfl⟩
  have hc3l:c3<2097152:=by omega
  rw [hc3] at q3
  have hcode:iY [a,b,c,d]=c3:=by
   have e:iY [a,b,c,d]=((a % 2 ^ (7 - (3+1)) * 64+b % 64) * 64+c % 64) * 64+d % 64:=rfl
   rw [e]
   have e2:a % 2 ^ 3=a % (2 ^ (7 - (3+1))):=rfl
   omega
  rw [hcode] at h
  clear hb hk hcode ha
  simp only [bz] at ga gb q1 gc q2 gd q3
  refine eN Tryz.func259 rfl Tryz.ntmps259 fun hO=>?_
  repeat' first | refine st ?_ | (refine br ?_ ?_<;>intro hb) | apply cP | apply eg | fail
  all_goals refine fR Tryz.results259 ?_
  exact h
 | a::b::c::d::e::r =>
  obtain⟨h1,_⟩:=qJ hk
  have:jR a≤4:=by
   unfold jR
   repeat' split
   all_goals omega
  simp at h1
  omega
@[go_sem] theorem By.all1 (l:List Nat):((l.map By).all fun el=>el.cells.length==1)=true:=by
 rw [aF];intro x hx;obtain⟨y,_,rfl⟩:=aX.1 hx;rfl
theorem IQ (w0:World) (S:List aH) (p:List Nat) (hr:fM p=true) (R:Rt) (h:R (.ret (.sval false ((hH p).map Co))) S):az Tryz.prog w0 269 [.sval false (p.map By)] S R:=by
 have hri:=fun S'=>yv w0 S' p (tR (nw hr))
 rw [hr] at hri
 by_cases hp:p=[]
 ·subst hp
  have h:R (.ret (.sval false [])) S:=h
  have e0:decide ((0:Int)<((0:Nat):Int))=false:=rfl
  simp only [aL]
  clear hr hri
  refine eN Tryz.func269 rfl Tryz.ntmps269 fun hO=>?_
  repeat' first | refine st ?_ | (refine br ?_ ?_<;>intro hb) | fail
  refine fR Tryz.results269 ?_
  exact h
 ·have hl:decide ((0:Int)<(p.length:Int))=true:=by
   cases p with
   | nil=>exact absurd rfl hp
   | cons a r=>simp only [ah,decide_eq_true_eq];omega
  rw [hH,if_neg hp] at h
  have h:R (.ret (.sval false [AV.int .i64 65533])) S:=h
  clear hr hp
  refine eN Tryz.func269 rfl Tryz.ntmps269 fun hO=>?_
  repeat' first | refine st ?_ | (refine ca ?_;apply hri) | (refine br ?_ ?_<;>intro hb) | fail
  refine fR Tryz.results269 ?_
  exact h
def iL (q:List Nat × List Nat):AV:=.tup [.sval false (q.1.map By),.sval false (q.2.map Co)]
theorem CD (w0:World) (S:List aH) (p:List Nat) (b:Nat) (hb:b<256) (hr:fM p=true) (hp:∀ x∈p,x<256)
  (hrec:p≠[]→∀ (S':List aH) (R:Rt),R (.ret (iL (g8 b))) S'→az Tryz.prog w0 213 [.sval false [],.int .u8 b] S' R)
  (R:Rt) (h:R (.ret (iL (eh p b))) S):az Tryz.prog w0 213 [.sval false (p.map By),.int .u8 b] S R:=by
 have hl3:=nw hr
 have hri:=fun S'=>yv w0 S' p (tR hl3)
 rw [hr] at hri
 have hk:=fun S'=>H4 w0 S' (p++[b]) (by simp) (by simp;omega)
 have hb1:(p.length+1) * 1≤140737488355328:=by omega
 have happ:bS By p++[AV.int .u8 b]=bS By (p++[b]):=by rw [co];rfl
 have hlen:(p++[b]).length=p.length+1:=by simp
 have htk:qR p.length (bS By p)=bS By p:=dW (by simp)
 have hc:=fun S' (hh:dD (p++[b])=2)=>K0 w0 S' (p++[b]) hh (by
  intro x hx
  rcases dg.1 hx with hx | hx
  ·exact hp x hx
  ·rw [bC.1 hx];exact hb)
 have hall:=By.all1 p
 simp only [AV.cells] at hall
 have okA:=By.ok p
 simp only [dz,AV.cells] at okA
 have hle:(p.length:Int)≤(p.length:Int):=EU _
 have hbe:(p.length==p.length)=true:=by simp
 unfold eh at h
 have Happ:=au happ
 have Hc:=au hc
 have Hrec:=au hrec
 have H:=au h
 clear hp hb happ hc hrec h hl3 hr
 refine eN Tryz.func213 rfl Tryz.ntmps213 fun hO=>?_
 repeat' first | refine st ?_ | (refine ca ?_;apply hri) | (refine br ?_ ?_<;>intro hb) | fail
 rw [Happ.out]
 refine ja (S.length+1) ss ?_
 try simp only [go_sem, *]
 obtain⟨kd,hkd⟩:∃ kd,dD (p++[b])=kd:=⟨_,rfl⟩
 rw [hkd] at hk
 have h012:kd=0∨kd=1∨kd=2:=by
  rw [← hkd]
  cases p with
  | nil =>
   simp only [ap,dD];repeat' split
   all_goals simp
  | cons a r =>
   simp only [al,dD];repeat' split
   all_goals simp
 rcases h012 with rfl | rfl | rfl
 ·have hh:=H.out
  rw [hkd,if_neg (by decide),if_neg (by decide)] at hh
  clear hkd
  by_cases hp:p=[]
  ·subst hp
   rw [if_pos rfl] at hh
   have e0:(((0:Nat):Int)==0)=true:=rfl
   unfold iL at hh
   simp only [aG,aL,Co] at hh
   repeat' first | refine st ?_ | (refine ca ?_;apply hk) | (refine br ?_ ?_<;>intro hb) | fail
   refine fR Tryz.results213 ?_
   exact hh
  ·rw [if_neg hp] at hh
   have hrec:=Hrec.out hp
   have hl0:((p.length:Int)==0)=false:=by
    rw [beq_eq_false_iff_ne]
    intro e
    exact hp (ib.1 (by omega))
   have hq1:(g8 b).2.length≤1:=by unfold g8;split<;>(try split)<;>simp
   generalize g8 b=q at hrec hh hq1
   obtain⟨q1,q2⟩:=q
   unfold iL at hh hrec
   simp only [aG,Co] at hh hrec hq1
   have okC:=Co.ok q2
   simp only [dz,AV.cells] at okC
   have hb8:(1+q2.length) * 8≤140737488355328:=by omega
   clear hp hq1
   repeat' first | refine st ?_ | (refine ca ?_;first | apply hk | apply hrec) | (refine br ?_ ?_<;>intro hb) | fail
   have hcm:(1+q2.length=q2.length+1)=True:=by rw [Nat.add_comm];simp
   refine fR Tryz.results213 ?_
   exact hh
 ·have hh:=H.out
  rw [hkd,if_neg (by decide),if_pos rfl] at hh
  unfold iL at hh
  simp only [aL] at hh
  clear hkd
  repeat' first | refine st ?_ | (refine ca ?_;apply hk) | (refine br ?_ ?_<;>intro hb) | fail
  refine fR Tryz.results213 ?_
  exact hh
 ·have hh:=H.out
  rw [hkd,if_pos rfl] at hh
  have hc:=fun S'=>Hc.out S' hkd
  unfold iL at hh
  simp only [aG,aL,Co] at hh
  clear hkd
  repeat' first | refine st ?_ | (refine ca ?_;first | apply hk | apply hc) | (refine br ?_ ?_<;>intro hb) | fail
  refine fR Tryz.results213 ?_
  exact hh
theorem IP (w0:World) (S:List aH) (b:Nat) (hb:b<256) (R:Rt) (h:R (.ret (iL (g8 b))) S):az Tryz.prog w0 213 [.sval false [],.int .u8 b] S R:=by
 refine CD w0 S [] b hb rfl (by simp) (fun hh=>absurd rfl hh) R ?_
 have e:eh [] b=g8 b:=by unfold eh g8;simp
 rw [e];exact h
theorem H0 (w0:World) (S:List aH) (p:List Nat) (b:Nat) (hb:b<256) (hr:fM p=true) (hp:∀ x∈p,x<256) (R:Rt) (h:R (.ret (iL (eh p b))) S) :
  az Tryz.prog w0 213 [.sval false (p.map By),.int .u8 b] S R :=
 CD w0 S p b hb hr hp (fun _ S' R h=>IP w0 S' b hb R h) R h
theorem rK (m:Nat):bo.wrap (m:Int)=((m % 256:Nat):Int):=by
 have h:bo.wrap (m:Int)=(m:Int) % 256:=by simp [IntKind.wrap,IntKind.signed,bz]
 rw [h]
 omega
theorem LG:∀ x:Nat,x<256→bo.wrap (((aD bo.bits 128 ||| aD bo.bits (bo.wrap (((aD bo.bits (x:Int) &&& aD bo.bits 63).toNat:Nat):Int))).toNat:Nat):Int)=((128+x % 64:Nat):Int):=by decide +kernel
theorem LF:∀ x:Nat,x<32→bo.wrap (((aD bo.bits 192 ||| aD bo.bits (x:Int)).toNat:Nat):Int)=((192+x:Nat):Int):=by decide +kernel
theorem LD:∀ x:Nat,x<16→bo.wrap (((aD bo.bits 224 ||| aD bo.bits (x:Int)).toNat:Nat):Int)=((224+x:Nat):Int):=by decide +kernel
theorem LC:∀ x:Nat,x<8→bo.wrap (((aD bo.bits 240 ||| aD bo.bits (x:Int)).toNat:Nat):Int)=((240+x:Nat):Int):=by decide +kernel
theorem MB (cp k:Nat) (hk:k≤64):(cp:Int).fdiv (2 ^ min k 64)=((cp / 2 ^ k:Nat):Int):=by
 rw [Nat.min_eq_left hk,zI _ (Int.le_of_lt (Int.pow_pos (by decide)))]
 rw [Int.natCast_ediv,Int.natCast_pow]
 rfl
theorem wH (w0:World) (S:List aH) (a cp k:Nat) (hk:k≤64) (ha:S[a]? = some (.cells [.int .i64 cp])) (R:Rt) (h:R (.ret (.int .u8 (128+cp / 2 ^ k % 64:Nat))) S) :
  az Tryz.prog w0 270 [.int .i64 k,.own a 0] S R:=by
 have hf:=MB cp k hk
 have hw:=rK (cp / 2 ^ k)
 have hx:=LG (cp / 2 ^ k % 256) (fa _ (by decide))
 have hm:cp / 2 ^ k % 256 % 64=cp / 2 ^ k % 64:=by omega
 have h0:(0:Int)≤(k:Int):=by omega
 rw [hm] at hx
 simp only [bz] at hx
 clear hm hk
 refine eN Tryz.func270 rfl Tryz.ntmps270 fun hO=>?_
 repeat' first | refine st ?_ | (refine br ?_ ?_<;>intro hb) | fail
 refine fR Tryz.results270 ?_
 exact h
def pY (cp:Nat):List UInt8:=(tF cp).map aN
theorem MJ (w0:World) (S:List aH) (cp:Nat) (hb:cp<4294967296) (R:Rt) (h:R (.ret (.str (pY cp))) S):az Tryz.prog w0 229 [.int .i64 cp] S R:=by
 have hck:=fun S'=>CE w0 S' cp
 unfold pY tF at h
 cases hok:tt cp with
 | false =>
  rw [hok,if_neg (by decide)] at h
  rw [hok] at hck
  have h:R (.ret (.str [239,191,189])) S:=h
  have c0:=fun S' ha=>wH w0 S' S.length 65533 0 (by decide) ha
  have c6:=fun S' ha=>wH w0 S' S.length 65533 6 (by decide) ha
  have q6:(128+65533 / 2 ^ 6 % 64:Nat)=191:=rfl
  have q0:(128+65533 / 2 ^ 0 % 64:Nat)=189:=rfl
  rw [q0] at c0
  rw [q6] at c6
  have k0:(((0:Nat):Int))=0:=rfl
  have k6:(((6:Nat):Int))=6:=rfl
  have kc:(((65533:Nat):Int))=65533:=rfl
  rw [k0] at c0
  rw [k6] at c6
  rw [kc] at c0 c6
  have z1:bo.wrap (((aD bo.bits 224 ||| aD bo.bits (bo.wrap ((65533:Int).fdiv (2 ^ min 12 64)))).toNat:Nat):Int)=239:=by decide
  simp only [bz] at z1
  clear q0 q6 k0 k6 kc hb hok
  refine eN Tryz.func229 rfl Tryz.ntmps229 fun hO=>?_
  repeat' first | refine st ?_ | (refine ca ?_;first | apply hck | (apply c0;(· simp only [go_sem, *];try rfl)) | (apply c6;(· simp only [go_sem, *];try rfl))) | (refine br ?_ ?_<;>intro hb) | refine sd ?_ | apply aE | (apply aO;(· decide +kernel)) | refine bd ?_ ?_ | (refine cd ?_;first | apply hck | (apply c0;(· simp only [go_sem, *];try rfl)) | (apply c6;(· simp only [go_sem, *];try rfl))) | fail
  refine fR Tryz.results229 ?_
  exact h
 | true =>
  rw [hok,if_pos rfl] at h
  rw [hok] at hck
  have hle:cp≤1114111:=by
   simp only [tt,aB,decide_eq_true_eq] at hok
   exact hok.1
  have c0:=fun S' ha=>wH w0 S' S.length cp 0 (by decide) ha
  have c6:=fun S' ha=>wH w0 S' S.length cp 6 (by decide) ha
  have c12:=fun S' ha=>wH w0 S' S.length cp 12 (by decide) ha
  have k0:(((0:Nat):Int))=0:=rfl
  have k6:(((6:Nat):Int))=6:=rfl
  have k12:(((12:Nat):Int))=12:=rfl
  rw [k0] at c0
  rw [k6] at c6
  rw [k12] at c12
  have f6:=MB cp 6 (by decide)
  have f12:=MB cp 12 (by decide)
  have f18:=MB cp 18 (by decide)
  have w0':=rK cp
  have w6:=rK (cp / 2 ^ 6)
  have w12:=rK (cp / 2 ^ 12)
  have w18:=rK (cp / 2 ^ 18)
  clear hok hb k0 k6 k12
  by_cases h1:cp<128
  ·have d1:decide ((cp:Int)<128)=true:=by simpa using (show (cp:Int)<128 by omega)
   have e:kK cp=[cp]:=by unfold kK;rw [if_pos h1]
   rw [e] at h
   rw [pH (show cp<256 by omega)] at w0'
   have h:R (.ret (.str [aN cp])) S:=h
   clear e h1 hle c0 c6 c12 f6 f12 f18 w6 w12 w18
   refine eN Tryz.func229 rfl Tryz.ntmps229 fun hO=>?_
   repeat' first | refine st ?_ | (refine ca ?_;apply hck) | (refine br ?_ ?_<;>intro hb) | refine sd ?_ | apply aE | (apply aO;(· decide +kernel)) | refine bd ?_ ?_ | (refine cd ?_;apply hck) | fail
   refine fR Tryz.results229 ?_
   exact h
  have d1:decide ((cp:Int)<128)=false:=by simp;omega
  by_cases h2:cp<2048
  ·have d2:decide ((cp:Int)<2048)=true:=by simp;omega
   have e:kK cp=[192+cp / 2 ^ 6,128+cp / 2 ^ 0 % 64]:=by unfold kK;rw [if_neg h1,if_pos h2];simp
   rw [e] at h
   have h:R (.ret (.str [aN (192+cp / 2 ^ 6),aN (128+cp / 2 ^ 0 % 64)])) S:=h
   have hx:cp / 2 ^ 6<32:=by omega
   have o:=LF _ hx
   rw [pH (show cp / 2 ^ 6<256 by omega)] at w6
   simp only [bz] at o
   clear e h1 h2 hle c6 c12 f12 f18 w0' w12 w18
   refine eN Tryz.func229 rfl Tryz.ntmps229 fun hO=>?_
   repeat' first | refine st ?_ | (refine ca ?_;first | apply hck | (apply c0;(· simp only [go_sem, *];try rfl))) | (refine br ?_ ?_<;>intro hb) | refine sd ?_ | apply aE | (apply aO;(· decide +kernel)) | refine bd ?_ ?_ | (refine cd ?_;first | apply hck | (apply c0;(· simp only [go_sem, *];try rfl))) | fail
   refine fR Tryz.results229 ?_
   exact h
  have d2:decide ((cp:Int)<2048)=false:=by simp;omega
  by_cases h3:cp<65536
  ·have d3:decide ((cp:Int)<65536)=true:=by simp;omega
   have e:kK cp=[224+cp / 2 ^ 12,128+cp / 2 ^ 6 % 64,128+cp / 2 ^ 0 % 64]:=by unfold kK;rw [if_neg h1,if_neg h2,if_pos h3];simp
   rw [e] at h
   have h:R (.ret (.str [aN (224+cp / 2 ^ 12),aN (128+cp / 2 ^ 6 % 64),aN (128+cp / 2 ^ 0 % 64)])) S:=h
   have hx:cp / 2 ^ 12<16:=by omega
   have o:=LD _ hx
   rw [pH (show cp / 2 ^ 12<256 by omega)] at w12
   simp only [bz] at o
   clear e h1 h2 h3 hle c12 f6 f18 w0' w6 w18
   refine eN Tryz.func229 rfl Tryz.ntmps229 fun hO=>?_
   repeat' first | refine st ?_ | (refine ca ?_;first | apply hck | (apply c0;(· simp only [go_sem, *];try rfl)) | (apply c6;(· simp only [go_sem, *];try rfl))) | (refine br ?_ ?_<;>intro hb) | refine sd ?_ | apply aE | (apply aO;(· decide +kernel)) | refine bd ?_ ?_ | (refine cd ?_;first | apply hck | (apply c0;(· simp only [go_sem, *];try rfl)) | (apply c6;(· simp only [go_sem, *];try rfl))) | fail
   refine fR Tryz.results229 ?_
   exact h
  have d3:decide ((cp:Int)<65536)=false:=by simp;omega
  have e:kK cp=[240+cp / 2 ^ 18,128+cp / 2 ^ 12 % 64,128+cp / 2 ^ 6 % 64,128+cp / 2 ^ 0 % 64]:=by unfold kK;rw [if_neg h1,if_neg h2,if_neg h3];simp
  rw [e] at h
  have h:R (.ret (.str [aN (240+cp / 2 ^ 18),aN (128+cp / 2 ^ 12 % 64),aN (128+cp / 2 ^ 6 % 64),aN (128+cp / 2 ^ 0 % 64)])) S:=h
  have hx:cp / 2 ^ 18<8:=by omega
  have o:=LC _ hx
  rw [pH (show cp / 2 ^ 18<256 by omega)] at w18
  simp only [bz] at o
  clear e h1 h2 h3 hle f6 f12 w0' w6 w12
  refine eN Tryz.func229 rfl Tryz.ntmps229 fun hO=>?_
  repeat' first | refine st ?_ | (refine ca ?_;first | apply hck | (apply c0;(· simp only [go_sem, *];try rfl)) | (apply c6;(· simp only [go_sem, *];try rfl)) | (apply c12;(· simp only [go_sem, *];try rfl))) | (refine br ?_ ?_<;>intro hb) | refine sd ?_ | apply aE | (apply aO;(· decide +kernel)) | refine bd ?_ ?_ | (refine cd ?_;first | apply hck | (apply c0;(· simp only [go_sem, *];try rfl)) | (apply c6;(· simp only [go_sem, *];try rfl)) | (apply c12;(· simp only [go_sem, *];try rfl))) | fail
  refine fR Tryz.results229 ?_
  exact h
def Cl (w0:World):Prop:=Lib.TabIs Tryz.prog w0 "internal/strconv.uint64pow10" .u64 Lib.pow10Tab
theorem itoa (w0:World) (hT:Cl w0) (S:List aH) (n:Int) (h1 : -9223372036854775808≤n) (h2:n≤9223372036854775807) (R:Rt) (h:R (.ret (.str (cO n))) S):az Tryz.prog w0 86 [.int .i64 n] S R:=by
 refine az.lib (vs:=[.int .i64 n]) (v:=.str (cO n)) (Go.Proofs.enters_of Tryz.func86 (by kernel_rfl) rfl) rfl rfl ?_ h
 intro w hb
 refine(Go.Proofs.Any.strconv_Itoa Go.Proofs.Tryz.laysM171 n h1 h2 w (Lib.tabBelow_of_tabIs hT w hb)).mono ?_
 rintro e w' ⟨rfl,k,os,rfl⟩
 exact⟨rfl,Lib.below_grow _ w (bg _) k os⟩
theorem sV (w0:World) (S:List aH) (a:Nat) (v:AV) (ha:S[a]? = some (.cells [.nilp,v] (some 90))) (hv:v.lt S.length=true) (hal:a<S.length) (R:Rt) (h:R (.ret (.tup [])) (S.set a (.cells [.own a 0,v] (some 90)))) :
  az Tryz.prog w0 87 [.own a 0] S R:=by
 refine eN Tryz.func87 rfl Tryz.ntmps87 fun hO=>?_
 repeat' first | refine st ?_ | (refine br ?_ ?_<;>intro hb) | fail
 refine EX (f:=176) ss rfl rfl (fun c w=>?_) rfl ss ?_
 ·rw [run_callFunc_extern Tryz.func176 (by kernel_rfl) (by kernel_rfl) (by kernel_rfl) (by kernel_rfl),Lib.run_noEscape];rfl
 simp only [putA]
 repeat' first | refine st ?_ | (refine br ?_ ?_<;>intro hb) | fail
 refine GQ Tryz.results87 ?_ ?_ ?_
 ·exact bP.set hO (by simp [aH.ltB,ltL,AV.lt,hv,hal])
 ·simp
 ·exact h
theorem sU (w0:World) (S:List aH) (a:Nat) (v:AV) (ha:S[a]? = some (.cells [.own a 0,v] (some 90))) (R:Rt) (h:R (.ret (.tup [])) S) :
  az Tryz.prog w0 87 [.own a 0] S R:=by
 refine eN Tryz.func87 rfl Tryz.ntmps87 fun hO=>?_
 repeat' first | refine st ?_ | (refine br ?_ ?_<;>intro hb) | fail
 refine fE Tryz.results87 ?_
 exact h
theorem dp {α:Type _} (l:List α):l.all (fun _=>true)=true:=by simp
theorem ij {ops:Array Oper}{i p:Nat}{q:List Nat}{prot:List (Nat × List Nat)}{S S':List aH} (hp:j7 ops i p=false) (h:cU ops i prot S S'):cU ops i ((p,q)::prot) S S':=j8 hp h
def Nv (S:List aH) (a g i:Nat) (ad:AV) (bs:List UInt8):Prop :=
 S[a]? = some (.cells [ad,.sown g i bs.length] (some 90))∧S[g]? = some (.arr 5 1 0 i (bs.map iI))∧(ad=.nilp∨ad=.own a 0)
theorem qx (w0:World) (S:List aH) (a g i:Nat) (ad:AV) (bs s:List UInt8) (hb:Nv S a g i ad bs) (hlen:(bs.length+s.length) * 1≤140737488355328) (R:Rt)
  (h:R (.ret (.tup [.int .i64 s.length,.inil])) ((S.set g (.arr 5 1 0 (i+1) ((bs++s).map iI))).set a (.cells [.own a 0,.sown g (i+1) (bs.length+s.length)] (some 90)))) :
  az Tryz.prog w0 40 [.own a 0,.str s] S R:=by
 obtain⟨ha,hg,had⟩:=hb
 have hal:=(aw.1 ha).1
 have hgl:=(aw.1 hg).1
 have hne:a≠g:=by rintro rfl;rw [ha] at hg;cases hg
 obtain⟨S1,hS1⟩:∃ S1,S.set a (.cells [.own a 0,.sown g i bs.length] (some 90))=S1:=⟨_,rfl⟩
 have hck:∀ R:ed→List aH→Prop,R (.ret (.tup [])) S1→az Tryz.prog w0 87 [.own a 0] S R:=by
  intro R hR
  rcases had with rfl | rfl
  ·exact sV w0 S a _ ha (by simpa [AV.lt] using hgl) hal R (hS1▸hR)
  ·have:S.set a (.cells [.own a 0,.sown g i bs.length] (some 90))=S:=gL ha
   rw [this] at hS1
   exact sU w0 S a _ ha R (hS1▸hR)
 have h1:S1[a]? = some (.cells [.own a 0,.sown g i bs.length] (some 90)):=by rw [← hS1];simp [hal]
 have h2:S1[g]? = some (.arr 5 1 0 i (bs.map iI)):=by rw [← hS1,cN hne];exact hg
 have hl1:S1.length=S.length:=by rw [← hS1];simp
 have hbl:(bs.map iI).length=bs.length:=by simp
 have h3:∀ B,(S1.set g B)[a]? = some (.cells [.own a 0,.sown g i bs.length] (some 90)):=by intro B;rw [cN (Ne.symm hne)];exact h1
 have hfin:∀ B C,(S1.set g B).set a C=(S.set g B).set a C:=by
  intro B C
  rw [← hS1,List.set_comm _ _ hne,List.set_set]
 have Hfin:=au hfin
 have Hal:=au (cD hal hgl)
 clear hg had hal hgl hne hS1 hfin
 refine eN Tryz.func40 rfl Tryz.ntmps40 fun hO=>?_
 repeat' first | apply dM | apply cW | apply cj | apply cX | apply dN | apply bv | apply dQ | apply bx | apply bl | apply bF | apply bw | apply bj | apply aZ | apply dP | (apply a_;(· rfl)) | (apply bD;simp only [aU]) | (apply bZ;(· rfl);(· simp only [go_sem, *,bT,be,dp];try rfl);(· rfl);simp only [putA]) | (apply cZ;simp only [putA]) | apply bG | (apply cI [];(· simp only [go_sem, *,bT,be,dp];try rfl);(· rfl);(· simp only [go_sem, *,bT,be,dp];try rfl);(· rfl);(iterate 2 (· simp only [go_sem, *,bT,be,dp];try rfl));(first | apply hck);simp only [aR,putA]) | (apply b_;(· simp only [go_sem, *,bT,be,dp];try rfl);(· rfl);(· simp only [go_sem, *,bT,be,dp];try rfl)) | (apply cF;(iterate 2 (· simp only [go_sem, *,bT,be,dp];try rfl));(· rfl);simp only [putA]) | (apply bi;(· simp only [go_sem, *,bT,be,dp];try rfl);(· rfl);simp only [putA]) | (apply ce;(· simp only [go_sem, *,bT,be,dp];try rfl)) | (apply ci;(· simp only [go_sem, *,bT,be,dp];try rfl)) | (apply bE;(· rfl);(fail_if_success (focus (show _=some true;(· simp only [go_sem, *,bT,be,dp];try rfl))));(· simp only [go_sem, *,bT,be,dp];try rfl);all_goals (intro hb;try simp only [ax,aA] at hb)) | (apply cg;(· simp only [go_sem, *,bT,be,dp];try rfl);all_goals (intro hb;try simp only [ax,aA] at hb)) | fail
 refine GP Tryz.results40 ?_ ?_ ?_
 ·rw [Hfin.out]
  refine bP.set (bP.set hO ?_) ?_
  ·have h4:ltL S.length (bS iI bs++bS iI s)=true:=by rw [← co];exact wb _ _
   exact h4
  ·have:=Hal.out;simp [aH.ltB,ltL,AV.lt,this.1,this.2]
 ·simp [hl1]
 ·rw [Hfin.out];rw [co] at h;exact h
theorem qo (w0:World) (S:List aH) (a g i:Nat) (ad:AV) (bs:List UInt8) (hb:Nv S a g i ad bs) (hpos:1≤bs.length) (R:Rt)
  (h:R (.ret (.str bs)) (S.set g .dead)):az Tryz.prog w0 41 [.own a 0] S R:=by
 obtain⟨ha,hg,had⟩:=hb
 have hby:=qN bs
 have hok8:=xl bs
 have hbl:(bs.map iI).length=bs.length:=by simp
 have hne:a≠g:=by rintro rfl;rw [ha] at hg;cases hg
 have h3:∀ B,(S.set g B)[a]? = some (.cells [ad,.sown g i bs.length] (some 90)):=by intro B;rw [cN (Ne.symm hne)];exact ha
 clear hne
 clear had
 refine eN Tryz.func41 rfl Tryz.ntmps41 fun hO=>?_
 repeat' first | refine st ?_ | (refine br ?_ ?_<;>intro hb) | refine sd ?_ | apply aE | (apply aO;(· decide +kernel)) | refine bd ?_ ?_ | fail
 ·repeat' first | exact aE | refine gI ?_ | refine ij (by decide +kernel) ?_ | refine mP ((h3 _).trans ha.symm) ?_
 refine GP Tryz.results41 ?_ ?_ ?_
 ·exact bP.set hO rfl
 ·simp
 ·exact h
def fW (l:List Nat):List UInt8:=l.flatMap pY
theorem s_ (w0:World) (S:List aH) (a:Nat) (ha:S[a]? = some (.cells [.nilp,.snil] (some 90))) (R:Rt) (h:R (.ret (.str [])) S):az Tryz.prog w0 41 [.own a 0] S R:=by
 refine eN Tryz.func41 rfl Tryz.ntmps41 fun hO=>?_
 repeat' first | refine st ?_ | (refine br ?_ ?_<;>intro hb) | refine sd ?_ | apply aE | (apply aO;(· decide +kernel)) | refine bd ?_ ?_ | fail
 all_goals refine fR Tryz.results41 ?_
 all_goals exact h
theorem QE (w0:World) (X:List aH) (ad:AV) (i:Nat) (bs s:List UInt8) (had:ad=.nilp∨ad=.own X.length 0) (hlen:(bs.length+s.length) * 1≤140737488355328) (R:Rt)
  (h:R (.ret (.tup [.int .i64 s.length,.inil])) (X++[aH.cells [.own X.length 0,.sown (X.length+1) (i+1) (bs++s).length] (some 90),.arr 5 1 0 (i+1) ((bs++s).map iI)])) :
  az Tryz.prog w0 40 [.own X.length 0,.str s] (X++[aH.cells [ad,.sown (X.length+1) i bs.length] (some 90),.arr 5 1 0 i (bs.map iI)]) R:=by
 refine qx w0 _ X.length (X.length+1) i ad bs s ⟨by simp,by rw [aM (by omega)];simp,had⟩ hlen R ?_
 have e:((X++[aH.cells [ad,.sown (X.length+1) i bs.length] (some 90),.arr 5 1 0 i (bs.map iI)]).set (X.length+1) (.arr 5 1 0 (i+1) ((bs++s).map iI))).set X.length (.cells [.own X.length 0,.sown (X.length+1) (i+1) (bs.length+s.length)] (some 90)) =
   X++[aH.cells [.own X.length 0,.sown (X.length+1) (i+1) (bs++s).length] (some 90),.arr 5 1 0 (i+1) ((bs++s).map iI)]:=by
  rw [ef _ _ (by omega),ef _ _ (by omega)]
  simp
 rw [e]
 exact h
theorem Q8 (w0:World) (X:List aH) (ad:AV) (i:Nat) (bs:List UInt8) (had:ad=.nilp∨ad=.own X.length 0) (hpos:1≤bs.length) (R:Rt)
  (h:R (.ret (.str bs)) (X++[aH.cells [ad,.sown (X.length+1) i bs.length] (some 90),.dead])) :
  az Tryz.prog w0 41 [.own X.length 0] (X++[aH.cells [ad,.sown (X.length+1) i bs.length] (some 90),.arr 5 1 0 i (bs.map iI)]) R:=by
 refine qo w0 _ X.length (X.length+1) i ad bs ⟨by simp,by rw [aM (by omega)];simp,had⟩ hpos R ?_
 rw [ef _ _ (by omega)]
 simpa using h
theorem r_ (cp:Nat):1≤(pY cp).length∧(pY cp).length≤4:=by
 unfold pY tF kK
 repeat' split
 all_goals simp
theorem pR (l:List Nat):l.length≤(fW l).length∧(fW l).length≤4 * l.length:=by
 induction l with
 | nil=>simp [fW]
 | cons c l ih =>
  have:=r_ c
  unfold fW at ih ⊢
  rw [kY,ab,ah];omega
theorem rM {l:List Nat}{k c:Nat} (h:l[k]? = some c):fW (l.take (k+1))=fW (l.take k)++pY c:=by
 unfold fW
 rw [pI,h]
 simp
theorem KY (w0:World) (S:List aH) (l:List Nat) (hb:∀ c∈l,c<4294967296) (hl:l.length≤100000000) (R:Rt) (h:R (.ret (.str (fW l))) S):az Tryz.prog w0 187 [.sval false (l.map Co)] S R:=by
 by_cases hn:l=[]
 ·subst hn
  have h:R (.ret (.str [])) S:=h
  have e0:decide ((0:Int)<((0:Nat):Int))=false:=rfl
  have hbe:=fun S' ha=>s_ w0 S' S.length ha
  clear hb hl
  refine eN Tryz.func187 rfl Tryz.ntmps187 fun hO=>?_
  repeat' first | refine st ?_ | (refine ca ?_;(apply hbe;(· simp only [go_sem, *];try rfl))) | (refine br ?_ ?_<;>intro hb) | apply cP | apply eg | fail
  refine fR Tryz.results187 ?_
  exact h
 ·have hpos:0<l.length:=by
   cases l with
   | nil=>exact absurd rfl hn
   | cons a r=>simp
  refine eN Tryz.func187 rfl Tryz.ntmps187 fun hO=>?_
  repeat' first | refine st ?_ | (refine br ?_ ?_<;>intro hb) | fail
  refine lD (a:=S.length) (j:=1) 5 1 ss ss (by decide) ?_
  simp only [go_sem, *]
  refine dX (fun (p:Nat × AV) env S'=>p.1≤l.length∧(p.2=.nilp∨p.2=.own S.length 0)∧env 1000000=.dfr []∧env 3=.own S.length 0∧env 6=.sval false (l.map Co)∧env 7=.int .i64 l.length∧env 8=.int .i64 (p.1:Int) ∧
   S'=S++[aH.cells [p.2,.sown (S.length+1) p.1 (fW (l.take p.1)).length] (some 90),.arr 5 1 0 p.1 ((fW (l.take p.1)).map iI)]) (fun p=>l.length - p.1) (0,.nilp) ?_ ?_
  ·exact⟨bI _,.inl rfl,ss,ss,ss,ss,ss,rfl⟩
  ·rintro⟨k,ad⟩ env S' ⟨hk,had,e0,e3,e6,e7,e8,rfl⟩ IH
   have HI:=au IH
   have H:=au h
   have Hb:=au hb
   have Had:=au had
   have Hpos:=au hpos
   clear IH h hb had hn hpos
   have ht:=pR (l.take k)
   have htk:(l.take k).length≤k:=List.length_take_le _ _
   simp only at hk e8
   by_cases hlt:k<l.length
   ·obtain⟨c,hx⟩:∃ c,l[k]? = some c:=⟨_,aC hlt⟩
    have h1:decide ((k:Int)<(l.length:Int))=true:=by simpa using hlt
    have hw:ar.wrap ((k:Int)+1)=(k:Int)+1:=ay _ (by omega)
    have hpl:=r_ c
    have hput:=fun S'=>MJ w0 S' c (Hb.out c (aI hx))
    have hws:=QE w0 S ad k (fW (l.take k)) (pY c) Had.out (by omega)
    rw [← rM hx] at hws
    have Hlt:=au hlt
    clear hlt hl hk ht htk hpl
    repeat' first | apply dM | apply cW | apply cj | apply cX | apply dN | apply bv | apply dQ | apply bx | apply bl | apply bF | apply bw | apply bj | apply aZ | apply dP | (apply a_;(· rfl)) | (apply bD;simp only [aU]) | (apply bZ;(· rfl);(· simp only [go_sem, *,Co];try rfl);(· rfl);simp only [putA]) | (apply cZ;simp only [putA]) | apply bG | (apply cI [];(· simp only [go_sem, *,Co];try rfl);(· rfl);(· simp only [go_sem, *,Co];try rfl);(· rfl);(iterate 2 (· simp only [go_sem, *,Co];try rfl));(first | apply hput | apply hws);simp only [aR,putA]) | (apply b_;(· simp only [go_sem, *,Co];try rfl);(· rfl);(· simp only [go_sem, *,Co];try rfl)) | (apply cF;(iterate 2 (· simp only [go_sem, *,Co];try rfl));(· rfl);simp only [putA]) | (apply bi;(· simp only [go_sem, *,Co];try rfl);(· rfl);simp only [putA]) | (apply ce;(· simp only [go_sem, *,Co];try rfl)) | (apply ci;(· simp only [go_sem, *,Co];try rfl)) | (apply bE;(· rfl);(fail_if_success (focus (show _=some true;(· simp only [go_sem, *,Co];try rfl))));(· simp only [go_sem, *,Co];try rfl);all_goals (intro hb;try simp only [ax,aA] at hb)) | (apply cg;(· simp only [go_sem, *,Co];try rfl);all_goals (intro hb;try simp only [ax,aA] at hb)) | fail
    refine HI.out (k+1,.own S.length 0) _ _ (by have:=Hlt.out;simp only;omega) ⟨Hlt.out,.inr rfl, ?_, ?_, ?_, ?_, ?_,rfl⟩
    ·(simp only [go_sem, *];try rfl)
    ·(simp only [go_sem, *];try rfl)
    ·(simp only [go_sem, *];try rfl)
    ·(simp only [go_sem, *];try rfl)
    ·(simp only [go_sem, *];try rfl)
   ·have hkl:k=l.length:=by omega
    have h1:decide ((k:Int)<(l.length:Int))=false:=by simpa using hlt
    have htl:fW (l.take k)=fW l:=by rw [hkl,bQ]
    have hp1:1≤(fW l).length:=by have:=pR l;have:=Hpos.out;omega
    rw [htl]
    have hbs:=Q8 w0 S ad k (fW l) Had.out hp1
    clear hlt hl hk ht htk htl hkl hp1
    repeat' first | refine st ?_ | (refine ca ?_;apply hbs) | (refine br ?_ ?_<;>intro hb) | fail
    refine fR Tryz.results187 ?_
    exact H.out
end Go.Proofs.YthdbijpefkapnaaGreatDoor
