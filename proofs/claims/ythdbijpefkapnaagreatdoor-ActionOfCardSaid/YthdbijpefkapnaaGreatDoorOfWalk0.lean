/- A part of the proof. -/
import Derived.Test.YthdbijpefkapnaaGreatDoorOfCore4
import Derived.Test.YthdbijpefkapnaaGreatDoorOfTy
set_option linter.all false
set_option maxHeartbeats 40000000
open BitVec renaming ofInt → ar, toNat_and → Fz, toNat_ofInt → cH, toNat_or → IU
open Bool renaming and_eq_false_iff → gF, and_eq_true → aq, eq_iff_iff → eU, false_or → wG, not_eq_true' → ay, or_eq_true → ef, true_eq_false → lC
open Go.IntKind renaming bits → bk, i64 → ae, u8 → a6
open Go.IntWalk renaming i64_in → ai, u8_in → cR
open Go.Lib renaming hid → ab
open Int renaming le_refl → Fy
open List renaming all_eq_true → aD, append_nil → aG, cons_append → fQ, dropWhile_cons_of_neg → u6, dropWhile_cons_of_pos → uZ, foldl_cons → g9, getElem?_eq_getElem → ap, length → jI, length_append → ah, length_cons → aB, length_eq_zero_iff → kE, length_map → bi, length_nil → aI, map → bn, map_append → aM, map_cons → al, map_nil → aj, mem_append → bV, mem_cons → bD, mem_map → aN, mem_singleton → a_, nil_append → gu, replicate → a8, replicate_succ → ml, replicate_zero → Fu, reverse_append → Cu, reverse_replicate → yH, reverse_reverse → A7, take → rg, take_of_length_le → dJ
open Nat renaming and_two_pow_sub_one_eq_mod → z6, le_refl → ba, le_succ_of_le → t_, mod_lt → eh, pow_le_pow_right → gM, reduceSub → eW
open UInt8 renaming ofNat → az, toNat → aK
namespace Go.Proofs.YthdbijpefkapnaaGreatDoor
open Go Go.Fen Go.Proofs.Tryz
attribute [local irreducible] aX WP ao dS i7 cJ aU cC
set_option maxRecDepth 8000
variable (w0:World) (S:List aH)
def jP(b:Nat):Nat:=if b<128 then 1 else if b<194 then 0 else if b<224 then 2 else if b<240 then 3 else if b<245 then 4 else 0
def zk(b:Nat):Nat:=if b=224 then 160 else if b=240 then 144 else 128
def zr(b:Nat):Nat:=if b=237 then 159 else if b=244 then 143 else 191
def fO:Nat→Nat→List Nat→Bool
 | _,_,[]=>true
 | lo,hi,b::r=>decide (lo≤b)&&(decide (b≤hi)&&fO 128 191 r)
def di:List Nat→Nat
 | []=>0
 | b::r=>if jP b<r.length+1 then 0 else if fO (zk b) (zr b) r then (if r.length+1<jP b then 1 else 2) else 0
def iL:List Nat→Nat
 | []=>0
 | b::r=>r.foldl (fun c x=>c * 64+x % 64) (if r=[] then b else b % 2 ^ (7 - (r.length+1)))
def cg(b:Nat):Nat × Nat:=if b<128 then (1,b) else if b<192 then (0,0) else if b<224 then (2,b - 192) else if b<240 then (3,b - 224) else if b<248 then (4,b - 240) else (0,0)
def eJ:Nat→List Nat→Nat→Nat→Option (Nat × Nat)
 | 0,_,lo,hi=>some (lo,hi)
 | n+1,[],lo,hi=>eJ n [] (lo * 64) (hi * 64+63)
 | n+1,b::r,lo,hi=>if b<128∨191<b then none else eJ n r (lo * 64+(b - 128)) (hi * 64+(b - 128))
def fM:List Nat→Nat × Nat × Nat
 | []=>(0,0,0)
 | b::r=>match eJ ((cg b).1 - 1) r (cg b).2 (cg b).2 with
  | none=>(0,0,0)
  | some (lo,hi)=>if (cg b).1<r.length+1 then (0,0,0) else (lo,hi,(cg b).1)
def qj:Nat→Nat|2=>128|3=>2048|4=>65536|_=>0
def uu:Nat→Nat|1=>127|2=>2047|3=>65535|4=>1114111|_=>0
def kz(p:List Nat):Bool × Bool :=
 let s:=fM p
 if s.2.2=0 then (false,false) else
  let lo:=max s.1 (qj s.2.2)
  let hi:=min s.2.1 (uu s.2.2)
  let is:=decide (lo≤hi)&&!(decide (55296≤lo)&&decide (hi≤57343))
  (is,is&&decide (p.length=s.2.2))
theorem cX(a:Nat) :
  (a<128∧cg a=(1,a)∧jP a=1)∨((128≤a∧a<192∨248≤a)∧cg a=(0,0)∧jP a=0)∨(192≤a∧a<194∧cg a=(2,a - 192)∧jP a=0) ∨
  (194≤a∧a<224∧cg a=(2,a - 192)∧jP a=2)∨(224≤a∧a<240∧cg a=(3,a - 224)∧jP a=3)∨(240≤a∧a<245∧cg a=(4,a - 240)∧jP a=4)∨(245≤a∧a<248∧cg a=(4,a - 240)∧jP a=0):=by
 unfold cg jP
 repeat' split
 all_goals simp
 all_goals omega
theorem Cc(a:Nat){b:Nat}{r:List Nat}(hb:b<128∨191<b):fO (zk a) (zr a) (b::r)=false:=by
 have h1:128≤zk a:=by
  unfold zk
  repeat' split
  all_goals omega
 have h2:zr a≤191:=by
  unfold zr
  repeat' split
  all_goals omega
 rw [fO,gF]
 rcases hb with hb|hb
 ·left;simp;omega
 ·right;rw [gF];left;simp;omega
theorem qk(a:Nat){b:Nat}{r:List Nat}(hb:b<128∨191<b):di (a::b::r)=0:=by
 rw [di,Cc a hb]
 simp
theorem uC(p:List Nat):kz p=(decide (di p≠0),decide (di p=2)):=by
 match p with
 | []=>rfl
 | [a] =>
  rcases cX a with⟨h1,hF,hL⟩|⟨h1,hF,hL⟩|⟨h1,h2,hF,hL⟩|⟨h1,h2,hF,hL⟩|⟨h1,h2,hF,hL⟩|⟨h1,h2,hF,hL⟩|⟨h1,h2,hF,hL⟩
  all_goals simp [kz,fM,di,hF,hL,eJ,qj,uu,fO]
  all_goals omega
 | [a,b] =>
  by_cases hb:b<128∨191<b
  ·rw [qk (r:=[]) a hb]
   rcases cX a with⟨h1,hF,hL⟩|⟨h1,hF,hL⟩|⟨h1,h2,hF,hL⟩|⟨h1,h2,hF,hL⟩|⟨h1,h2,hF,hL⟩|⟨h1,h2,hF,hL⟩|⟨h1,h2,hF,hL⟩
   all_goals simp only [kz,fM,hF,eJ,if_pos hb,eW]
   all_goals simp
  ·rcases cX a with⟨h1,hF,hL⟩|⟨h1,hF,hL⟩|⟨h1,h2,hF,hL⟩|⟨h1,h2,hF,hL⟩|⟨h1,h2,hF,hL⟩|⟨h1,h2,hF,hL⟩|⟨h1,h2,hF,hL⟩
   all_goals simp only [kz,fM,di,hF,hL,eJ,if_neg hb,fO,zk,zr,eW]
   all_goals (try simp [qj,uu])
   all_goals (try refine⟨?_, ?_⟩)
   all_goals (repeat' split)
   all_goals first
    | omega
    | (rw [eU];simp only [aq,ef,decide_eq_true_eq,ay,decide_eq_false_iff_not];omega)
    | simp
 | [a,b,c] =>
  by_cases hb:b<128∨191<b
  ·rw [qk (r:=[c]) a hb]
   rcases cX a with⟨h1,hF,hL⟩|⟨h1,hF,hL⟩|⟨h1,h2,hF,hL⟩|⟨h1,h2,hF,hL⟩|⟨h1,h2,hF,hL⟩|⟨h1,h2,hF,hL⟩|⟨h1,h2,hF,hL⟩
   all_goals simp only [kz,fM,hF,eJ,if_pos hb,eW]
   all_goals simp
  ·by_cases hc:c<128∨191<c
   ·have hk:di [a,b,c]=0:=by
     rw [di,fO,fO]
     have e:(decide (128≤c)&&(decide (c≤191)&&fO 128 191 []))=false:=by
      rcases hc with hc|hc
      ·simp;omega
      ·simp;omega
     rw [e]
     simp
    rw [hk]
    rcases cX a with⟨h1,hF,hL⟩|⟨h1,hF,hL⟩|⟨h1,h2,hF,hL⟩|⟨h1,h2,hF,hL⟩|⟨h1,h2,hF,hL⟩|⟨h1,h2,hF,hL⟩|⟨h1,h2,hF,hL⟩
    all_goals simp only [kz,fM,hF,eJ,if_neg hb,if_pos hc,eW]
    all_goals simp
   ·rcases cX a with⟨h1,hF,hL⟩|⟨h1,hF,hL⟩|⟨h1,h2,hF,hL⟩|⟨h1,h2,hF,hL⟩|⟨h1,h2,hF,hL⟩|⟨h1,h2,hF,hL⟩|⟨h1,h2,hF,hL⟩
    all_goals simp only [kz,fM,di,hF,hL,eJ,if_neg hb,if_neg hc,fO,zk,zr,eW]
    all_goals (try simp [qj,uu])
    all_goals (try refine⟨?_, ?_⟩)
    all_goals (repeat' split)
    all_goals first
     | omega
     | (rw [eU];simp only [aq,ef,decide_eq_true_eq,ay,decide_eq_false_iff_not];omega)
     | simp
 | [a,b,c,d] =>
  by_cases hb:b<128∨191<b
  ·rw [qk (r:=[c,d]) a hb]
   rcases cX a with⟨h1,hF,hL⟩|⟨h1,hF,hL⟩|⟨h1,h2,hF,hL⟩|⟨h1,h2,hF,hL⟩|⟨h1,h2,hF,hL⟩|⟨h1,h2,hF,hL⟩|⟨h1,h2,hF,hL⟩
   all_goals simp only [kz,fM,hF,eJ,if_pos hb,eW]
   all_goals simp
  ·by_cases hc:c<128∨191<c
   ·have hk:di [a,b,c,d]=0:=by
     rw [di,fO,fO]
     have e:(decide (128≤c)&&(decide (c≤191)&&fO 128 191 [d]))=false:=by
      rcases hc with hc|hc
      ·simp;omega
      ·simp;omega
     rw [e]
     simp
    rw [hk]
    rcases cX a with⟨h1,hF,hL⟩|⟨h1,hF,hL⟩|⟨h1,h2,hF,hL⟩|⟨h1,h2,hF,hL⟩|⟨h1,h2,hF,hL⟩|⟨h1,h2,hF,hL⟩|⟨h1,h2,hF,hL⟩
    all_goals simp only [kz,fM,hF,eJ,if_neg hb,if_pos hc,eW]
    all_goals simp
   ·by_cases hd:d<128∨191<d
    ·have hk:di [a,b,c,d]=0:=by
      rw [di,fO,fO,fO]
      have e:(decide (128≤d)&&(decide (d≤191)&&fO 128 191 []))=false:=by
       rcases hd with hd|hd
       ·simp;omega
       ·simp;omega
      rw [e]
      simp
     rw [hk]
     rcases cX a with⟨h1,hF,hL⟩|⟨h1,hF,hL⟩|⟨h1,h2,hF,hL⟩|⟨h1,h2,hF,hL⟩|⟨h1,h2,hF,hL⟩|⟨h1,h2,hF,hL⟩|⟨h1,h2,hF,hL⟩
     all_goals simp only [kz,fM,hF,eJ,if_neg hb,if_neg hc,if_pos hd,eW]
     all_goals simp
    ·rcases cX a with⟨h1,hF,hL⟩|⟨h1,hF,hL⟩|⟨h1,h2,hF,hL⟩|⟨h1,h2,hF,hL⟩|⟨h1,h2,hF,hL⟩|⟨h1,h2,hF,hL⟩|⟨h1,h2,hF,hL⟩
     all_goals simp only [kz,fM,di,hF,hL,eJ,if_neg hb,if_neg hc,if_neg hd,fO,zk,zr,eW]
     all_goals (try simp [qj,uu])
     all_goals (try refine⟨?_, ?_⟩)
     all_goals (repeat' split)
     all_goals first
      | omega
      | (rw [eU];simp only [aq,ef,decide_eq_true_eq,ay,decide_eq_false_iff_not];omega)
      | simp
 | a::b::c::d::e::r =>
  have hl:jP a≤4:=by
   unfold jP;repeat' split
   all_goals omega
  have hf:(cg a).1≤4:=by
   unfold cg;repeat' split
   all_goals simp
  have hk:di (a::b::c::d::e::r)=0:=by
   rw [di,if_pos κ]
  have hs:fM (a::b::c::d::e::r)=(0,0,0):=by
   rw [fM]
   cases eJ ((cg a).1 - 1) (b::c::d::e::r) (cg a).2 (cg a).2 with
   | none=>rfl
   | some q=>simp only [];rw [if_pos κ]
  rw [hk]
  simp [kz,hs]
theorem yf{lo hi:Nat}{l:List Nat}(h:fO lo hi l=true)(h1:128≤lo)(h2:hi≤191):∀ x∈l,128≤x∧x≤191:=by
 induction l generalizing lo hi with
 | nil=>intro x hx;cases hx
 | cons b r ih =>
  simp only [fO,aq,decide_eq_true_eq] at h
  intro x hx
  rcases bD.1 hx with rfl|hx
  ·omega
  ·exact ih h.2.2 (ba _) (ba _) x hx
theorem Ek(a:Nat):128≤zk a:=by
 unfold zk
 repeat' split
 all_goals omega
theorem Er(a:Nat):zr a≤191:=by
 unfold zr
 repeat' split
 all_goals omega
theorem qX{a:Nat}{r:List Nat}(h:di (a::r)=2):jP a=r.length+1∧∀ x∈r,128≤x∧x≤191:=by
 rw [di] at h
 split at h
 ·cases h
 ·split at h
  ·next hc =>
   split at h
   ·cases h
   ·exact⟨ω,yf hc (Ek a) (Er a)⟩
  ·cases h
theorem Bq{p:List Nat}(h:di p=2):(fM p).1=iL p:=by
 match p with
 | []=>rfl
 | [a] =>
  obtain⟨h1,_⟩:=qX h
  rcases cX a with⟨h2,hF,hL⟩|⟨h2,hF,hL⟩|⟨h2,h3,hF,hL⟩|⟨h2,h3,hF,hL⟩|⟨h2,h3,hF,hL⟩|⟨h2,h3,hF,hL⟩|⟨h2,h3,hF,hL⟩
  all_goals (rw [hL] at h1;simp at h1)
  simp [fM,hF,eJ,iL]
 | [a,b] =>
  obtain⟨h1,hb⟩:=qX h
  have hb:=hb b χ
  have nb:¬ (b<128∨191<b):=ω
  rcases cX a with⟨h2,hF,hL⟩|⟨h2,hF,hL⟩|⟨h2,h3,hF,hL⟩|⟨h2,h3,hF,hL⟩|⟨h2,h3,hF,hL⟩|⟨h2,h3,hF,hL⟩|⟨h2,h3,hF,hL⟩
  all_goals (rw [hL] at h1;simp at h1)
  simp only [fM,hF,eJ,if_neg nb,iL]
  simp
  omega
 | [a,b,c] =>
  obtain⟨h1,hb⟩:=qX h
  have hc:=hb c χ
  have hb:=hb b χ
  have nb:¬ (b<128∨191<b):=ω
  have nc:¬ (c<128∨191<c):=ω
  rcases cX a with⟨h2,hF,hL⟩|⟨h2,hF,hL⟩|⟨h2,h3,hF,hL⟩|⟨h2,h3,hF,hL⟩|⟨h2,h3,hF,hL⟩|⟨h2,h3,hF,hL⟩|⟨h2,h3,hF,hL⟩
  all_goals (rw [hL] at h1;simp at h1)
  simp only [fM,hF,eJ,if_neg nb,if_neg nc,iL,eW]
  simp
  omega
 | [a,b,c,d] =>
  obtain⟨h1,hb⟩:=qX h
  have hc:=hb c χ
  have hd:=hb d χ
  have hb:=hb b χ
  have nb:¬ (b<128∨191<b):=ω
  have nc:¬ (c<128∨191<c):=ω
  have nd:¬ (d<128∨191<d):=ω
  rcases cX a with⟨h2,hF,hL⟩|⟨h2,hF,hL⟩|⟨h2,h3,hF,hL⟩|⟨h2,h3,hF,hL⟩|⟨h2,h3,hF,hL⟩|⟨h2,h3,hF,hL⟩|⟨h2,h3,hF,hL⟩
  all_goals (rw [hL] at h1;simp at h1)
  simp only [fM,hF,eJ,if_neg nb,if_neg nc,if_neg nd,iL,eW]
  simp
  omega
 | a::b::c::d::e::r =>
  obtain⟨h1,_⟩:=qX h
  rcases cX a with⟨h2,hF,hL⟩|⟨h2,hF,hL⟩|⟨h2,h3,hF,hL⟩|⟨h2,h3,hF,hL⟩|⟨h2,h3,hF,hL⟩|⟨h2,h3,hF,hL⟩|⟨h2,h3,hF,hL⟩
  all_goals (rw [hL] at h1;simp at h1)
def e9(p:List Nat):Bool:=decide (p=[])||decide (di p=1)
def gR(b:Nat):List Nat × List Nat:=if di [b]=2 then ([],[iL [b]]) else if di [b]=1 then ([b],[]) else ([],[65533])
def dN(p:List Nat)(b:Nat):List Nat × List Nat :=
 if di (p++[b])=2 then ([],[iL (p++[b])]) else if di (p++[b])=1 then (p++[b],[]) else if p=[] then ([],[65533]) else ((gR b).1,65533::(gR b).2)
def gU(p:List Nat):List Nat:=if p=[] then [] else [65533]
def lW:List Nat→List Nat→List Nat
 | p,[]=>gU p
 | p,b::s=>(dN p b).2++lW (dN p b).1 s
def ET(s:List Nat):List Nat:=lW [] s
theorem Bw:e9 []=true:=rfl
theorem w9(b:Nat):e9 (gR b).1=true:=by
 unfold gR
 split
 ·rfl
 ·split
  ·next h=>simp [e9,h]
  ·rfl
theorem qN(p:List Nat)(b:Nat):e9 (dN p b).1=true:=by
 unfold dN
 split
 ·rfl
 ·split
  ·next h=>simp [e9,h]
  ·split
   ·rfl
   ·exact w9 b
theorem Mz{a:Nat}{r:List Nat}(h:di (a::r)=1):r.length+1<jP a∧jP a≤4∧∀ x∈r,128≤x∧x≤191:=by
 have h4:jP a≤4:=by
  unfold jP
  repeat' split
  all_goals omega
 rw [di] at h
 split at h
 ·cases h
 ·split at h
  ·next hc =>
   split at h
   ·next h2=>exact⟨h2,h4,yf hc (Ek a) (Er a)⟩
   ·cases h
  ·cases h
theorem nu{p:List Nat}(h:e9 p=true):p.length≤3:=by
 cases p with
 | nil=>simp
 | cons a r =>
  simp only [e9,ef,decide_eq_true_eq] at h
  rcases h with h|h
  ·cases h
  ·obtain⟨h1,h2,_⟩:=Mz h
   simp;omega
def tI(cp:Nat):Bool:=decide (cp≤1114111)&&!(decide (55296≤cp)&&decide (cp≤57343))
def kI(cp:Nat):List Nat :=
 if cp<128 then [cp] else if cp<2048 then [192+cp / 64,128+cp % 64] else if cp<65536 then [224+cp / 4096,128+cp / 64 % 64,128+cp % 64] else [240+cp / 262144,128+cp / 4096 % 64,128+cp / 64 % 64,128+cp % 64]
def tP(cp:Nat):List Nat:=kI (if tI cp then cp else 65533)
def I1(l:List Nat):List Nat:=l.flatMap tP
theorem un(cp:Nat)(h:cp≤1114111):∀ x∈kI cp,x<256:=by
 unfold kI
 intro x hx
 repeat' split at hx
 all_goals (simp at hx;omega)
theorem BF(cp:Nat):∀ x∈tP cp,x<256:=by
 unfold tP
 split
 ·next h=>exact un cp (by simp [tI] at h;omega)
 ·exact un _ ω
def By(x:Nat):AV:=.int .u8 x
def Co(x:Nat):AV:=.int .i64 x
@[go_sem] theorem By.plainL(l:List Nat):plainL (l.map By)=true:=fL (fun _=>rfl) l
@[go_sem] theorem By.ltL(l:List Nat)(n:Nat):ltL n (l.map By)=true:=c_.2 fun x hx=>by obtain⟨y,_,rfl⟩:=aN.1 hx;rfl
@[go_sem] theorem By.ok(l:List Nat):cI 1 (l.map By)=true:=by
 unfold cI;rw [aD];intro x hx;obtain⟨y,_,rfl⟩:=aN.1 hx;rfl
@[go_sem] theorem Co.plainL(l:List Nat):plainL (l.map Co)=true:=fL (fun _=>rfl) l
@[go_sem] theorem Co.ltL(l:List Nat)(n:Nat):ltL n (l.map Co)=true:=c_.2 fun x hx=>by obtain⟨y,_,rfl⟩:=aN.1 hx;rfl
@[go_sem] theorem Co.ok(l:List Nat):cI 1 (l.map Co)=true:=by
 unfold cI;rw [aD];intro x hx;obtain⟨y,_,rfl⟩:=aN.1 hx;rfl
def jG(b:UInt8):AV:=.int .u8 (b.toNat:Int)
theorem na(l:List UInt8):gz (l.map jG)=some l:=by
 induction l with
 | nil=>rfl
 | cons x l ih=>simp [gz,jG,ih]
theorem xD(l:List UInt8):vM (l.map jG)=true:=by
 unfold vM
 rw [aD]
 intro x hx
 obtain⟨b,_,rfl⟩:=aN.1 hx
 have:=b.toNat_lt
 simp [jG];omega
@[go_sem] theorem N4(l:List UInt8):cI 1 (l.map jG)=true:=by
 unfold cI;rw [aD];intro x hx;obtain⟨y,_,rfl⟩:=aN.1 hx;rfl
@[go_sem] theorem Lu(l:List UInt8):plainL (l.map jG)=true:=fL (fun _=>rfl) l
@[go_sem] theorem ww(l:List UInt8)(n:Nat):ltL n (l.map jG)=true:=c_.2 fun x hx=>by obtain⟨y,_,rfl⟩:=aN.1 hx;rfl
def eb(n:Nat):UInt8:=if n<10 then az (48+n) else az (87+n)
def ec(b:UInt8):Option Nat :=
 if 48≤b.toNat∧b.toNat≤57 then some (b.toNat - 48)
 else if 97≤b.toNat∧b.toNat≤102 then some (b.toNat - 87)
 else if 65≤b.toNat∧b.toNat≤70 then some (b.toNat - 55) else none
def iV(a b:UInt8):Option Nat :=
 match ec a,ec b with
 | some x,some y=>some (x * 16+y)
 | _,_=>none
theorem pp{a:UInt8}{x:Nat}(h:ec a=some x):x<16:=by
 unfold ec at h
 split at h
 ·cases h;omega
 ·split at h
  ·cases h;omega
  ·split at h
   ·cases h;omega
   ·cases h
theorem rF{a b:UInt8}{v:Nat}(h:iV a b=some v):v<256:=by
 unfold iV at h
 split at h
 ·next x y hx hy =>
  cases h
  have:=pp hx
  have:=pp hy
  omega
 ·cases h
def fC:List Nat→List Nat
 | []=>[]
 | [a]=>[a / 4,a % 4 * 16]
 | [a,b]=>[a / 4,a % 4 * 16+b / 16,b % 16 * 4]
 | a::b::c::r=>a / 4::(a % 4 * 16+b / 16)::(b % 16 * 4+c / 64)::c % 64::fC r
structure nQ where
 out:List Nat
 wait:Nat
 rest:Nat
def eT(q:nQ)(c:Nat):nQ :=
 if q.wait=0 then ⟨q.out++[(q.rest * 256+c) / 4],2,(q.rest * 256+c) % 4⟩
 else if q.wait=2 then ⟨q.out++[(q.rest * 256+c) / 16],4,(q.rest * 256+c) % 16⟩
 else ⟨q.out++[(q.rest * 256+c) / 64,(q.rest * 256+c) % 64],0,0⟩
def lU(q:nQ):List Nat:=if q.wait=0 then q.out else if q.wait=2 then q.out++[q.rest * 16] else q.out++[q.rest * 4]
def La(s:List Nat):nQ:=s.foldl eT ⟨[],0,0⟩
theorem xZ:∀ (s:List Nat) (o:List Nat),(∀ x∈s,x<256)→lU (s.foldl eT ⟨o,0,0⟩)=o++fC s
 | [],o,_=>by simp [lU,fC]
 | [a],o,h=>by
  have ha:=h a χ
  simp [eT,lU,fC]
 | [a,b],o,h=>by
  have ha:=h a χ
  have hb:=h b χ
  simp [eT,lU,fC]
  omega
 | a::b::c::r,o,h=>by
  have ha:=h a χ
  have hb:=h b χ
  have hc:=h c χ
  have ih:=xZ r (o++[a / 4,a % 4 * 16+b / 16,b % 16 * 4+c / 64,c % 64]) (fun x hx=>h x (by simp [hx]))
  have e:(a::b::c::r).foldl eT ⟨o,0,0⟩=r.foldl eT ⟨o++[a / 4,a % 4 * 16+b / 16,b % 16 * 4+c / 64,c % 64],0,0⟩:=by
   simp only [g9]
   congr 1
   simp [eT]
   omega
  rw [e,ih]
  simp [fC]
theorem ED(s:List Nat)(h:∀ x∈s,x<256):lU (La s)=fC s:=by
 have:=xZ s [] h
 simpa [La] using this
def k9(s:List Nat)(k:Nat):Nat:=match s[k / 8]? with|some b=>b / 2 ^ (7 - k % 8) % 2|none=>0
def jA(s:List Nat)(p:Nat):Nat:=2 * (2 * (2 * (2 * (2 * (2 * 0+k9 s p)+k9 s (p+1))+k9 s (p+2))+k9 s (p+3))+k9 s (p+4))+k9 s (p+5)
theorem Cf(a b c:Nat)(r:List Nat)(k:Nat):k9 (a::b::c::r) (k+24)=k9 r k:=by
 unfold k9
 rw [show (k+24) / 8=k / 8+3 by omega,show (k+24) % 8=k % 8 by omega]
 simp
theorem yT(a b c:Nat)(r:List Nat)(p:Nat):jA (a::b::c::r) (p+24)=jA r p:=by
 unfold jA
 rw [show p+24+1=p+1+24 by omega,show p+24+2=p+2+24 by omega,show p+24+3=p+3+24 by omega,show p+24+4=p+4+24 by omega,show p+24+5=p+5+24 by omega]
 simp only [Cf]
theorem nI{s:List Nat}{i b:Nat}(h:s[i]? = some b)(j:Nat)(hj:j<8):k9 s (8 * i+j)=b / 2 ^ (7 - j) % 2:=by
 unfold k9
 rw [show (8 * i+j) / 8=i by omega,show (8 * i+j) % 8=j by omega,h]
theorem A0{s:List Nat}{i:Nat}(h:s[i]? = none)(j:Nat)(hj:j<8):k9 s (8 * i+j)=0:=by
 unfold k9
 rw [show (8 * i+j) / 8=i by omega,h]
theorem AQ:∀ (s:List Nat),(∀ x∈s,x<256)→∀ j,(fC s)[j]? = if 6 * j<8 * s.length then some (jA s (6 * j)) else none
 | [],_,j=>by simp [fC]
 | [a],h,j=>by
  have ha:=h a χ
  have b0:=fun j hj=>nI (s:=[a]) (i:=0) (b:=a) rfl j hj
  have b1:=fun j hj=>A0 (s:=[a]) (i:=1) rfl j hj
  match j with
  | 0 =>
   have:=b0 0 δ;have:=b0 1 δ;have:=b0 2 δ;have:=b0 3 δ;have:=b0 4 δ;have:=b0 5 δ
   simp [fC,jA] at *
   omega
  | 1 =>
   have:=b0 6 δ;have:=b0 7 δ;have:=b1 0 δ;have:=b1 1 δ;have:=b1 2 δ;have:=b1 3 δ
   simp [fC,jA] at *
   omega
  | j+2=>simp [fC];omega
 | [a,b],h,j=>by
  have ha:=h a χ
  have hb:=h b χ
  have b0:=fun j hj=>nI (s:=[a,b]) (i:=0) (b:=a) rfl j hj
  have b1:=fun j hj=>nI (s:=[a,b]) (i:=1) (b:=b) rfl j hj
  have b2:=fun j hj=>A0 (s:=[a,b]) (i:=2) rfl j hj
  match j with
  | 0 =>
   have:=b0 0 δ;have:=b0 1 δ;have:=b0 2 δ;have:=b0 3 δ;have:=b0 4 δ;have:=b0 5 δ
   simp [fC,jA] at *
   omega
  | 1 =>
   have:=b0 6 δ;have:=b0 7 δ;have:=b1 0 δ;have:=b1 1 δ;have:=b1 2 δ;have:=b1 3 δ
   simp [fC,jA] at *
   omega
  | 2 =>
   have:=b1 4 δ;have:=b1 5 δ;have:=b1 6 δ;have:=b1 7 δ;have:=b2 0 δ;have:=b2 1 δ
   simp [fC,jA] at *
   omega
  | j+3=>simp [fC];omega
 | a::b::c::r,h,j=>by
  have ha:=h a χ
  have hb:=h b χ
  have hc:=h c χ
  have ih:=AQ r (fun x hx=>h x (by simp [hx]))
  have b0:=fun j hj=>nI (s:=a::b::c::r) (i:=0) (b:=a) rfl j hj
  have b1:=fun j hj=>nI (s:=a::b::c::r) (i:=1) (b:=b) rfl j hj
  have b2:=fun j hj=>nI (s:=a::b::c::r) (i:=2) (b:=c) rfl j hj
  match j with
  | 0 =>
   have:=b0 0 δ;have:=b0 1 δ;have:=b0 2 δ;have:=b0 3 δ;have:=b0 4 δ;have:=b0 5 δ
   simp [fC,jA] at *
   omega
  | 1 =>
   have:=b0 6 δ;have:=b0 7 δ;have:=b1 0 δ;have:=b1 1 δ;have:=b1 2 δ;have:=b1 3 δ
   simp [fC,jA] at *
   omega
  | 2 =>
   have:=b1 4 δ;have:=b1 5 δ;have:=b1 6 δ;have:=b1 7 δ;have:=b2 0 δ;have:=b2 1 δ
   simp [fC,jA] at *
   omega
  | 3 =>
   have:=b2 2 δ;have:=b2 3 δ;have:=b2 4 δ;have:=b2 5 δ;have:=b2 6 δ;have:=b2 7 δ
   simp [fC,jA] at *
   omega
  | j+4 =>
   rw [show 6 * (j+4)=6 * j+24 by omega,yT]
   simp only [fC,List.getElem?_cons_succ,aB]
   rw [ih j]
   by_cases hh:6 * j<8 * r.length
   ·rw [if_pos hh,if_pos ω]
   ·rw [if_neg hh,if_neg ω]
def d_(q:nQ)(v:Nat):nQ :=
 if q.wait=0 then ⟨q.out,6,q.rest * 64+v⟩
 else if q.wait=6 then ⟨q.out++[(q.rest * 64+v) / 16],4,(q.rest * 64+v) % 16⟩
 else if q.wait=4 then ⟨q.out++[(q.rest * 64+v) / 4],2,(q.rest * 64+v) % 4⟩
 else ⟨q.out++[q.rest * 64+v],0,0⟩
def dV:List Nat→nQ
 | []=>⟨[],0,0⟩
 | [a]=>⟨[],6,a⟩
 | [a,b]=>⟨[a * 4+b / 16],4,b % 16⟩
 | [a,b,c]=>⟨[a * 4+b / 16,b % 16 * 16+c / 4],2,c % 4⟩
 | a::b::c::d::r=>⟨(a * 4+b / 16)::(b % 16 * 16+c / 4)::(c % 4 * 64+d)::(dV r).out,(dV r).wait,(dV r).rest⟩
theorem td:∀ (s:List Nat) (o:List Nat),(∀ x∈s,x<64)→s.foldl d_ ⟨o,0,0⟩=⟨o++(dV s).out,(dV s).wait,(dV s).rest⟩
 | [],o,_=>by simp [dV]
 | [a],o,h=>by simp [d_,dV]
 | [a,b],o,h=>by
  have hb:=h b χ
  simp [d_,dV]
  omega
 | [a,b,c],o,h=>by
  have hb:=h b χ
  have hc:=h c χ
  simp [d_,dV]
  omega
 | a::b::c::d::r,o,h=>by
  have hb:=h b χ
  have hc:=h c χ
  have hd:=h d χ
  have ih:=td r (o++[a * 4+b / 16,b % 16 * 16+c / 4,c % 4 * 64+d]) (fun x hx=>h x (by simp [hx]))
  have e:(a::b::c::d::r).foldl d_ ⟨o,0,0⟩=r.foldl d_ ⟨o++[a * 4+b / 16,b % 16 * 16+c / 4,c % 4 * 64+d],0,0⟩:=by
   simp only [g9]
   congr 1
   simp [d_]
   omega
  rw [e,ih]
  simp [dV]
theorem AR:∀ (s:List Nat),(∀ x∈s,x<64)→(dV s).wait≠6→(dV s).rest=0→fC (dV s).out=s
 | [],_,_,_=>by simp [dV,fC]
 | [a],_,h1,_=>by simp [dV] at h1
 | [a,b],h,_,h2=>by
  have hb:=h b χ
  simp [dV] at h2
  simp [dV,fC]
  omega
 | [a,b,c],h,_,h2=>by
  have hb:=h b χ
  have hc:=h c χ
  simp [dV] at h2
  simp [dV,fC]
  omega
 | a::b::c::d::r,h,h1,h2=>by
  have hb:=h b χ
  have hc:=h c χ
  have hd:=h d χ
  have ih:=AR r (fun x hx=>h x (by simp [hx])) (by simpa [dV] using h1) (by simpa [dV] using h2)
  simp only [dV,fC,ih]
  simp
  omega
theorem wj:∀ (t:List Nat),(∀ x∈t,x<256)→(dV (fC t)).out=t∧(dV (fC t)).wait≠6∧(dV (fC t)).rest=0
 | [],_=>by simp [dV,fC]
 | [a],h=>by
  have ha:=h a χ
  simp [dV,fC]
  omega
 | [a,b],h=>by
  have ha:=h a χ
  have hb:=h b χ
  simp [dV,fC]
  omega
 | a::b::c::r,h=>by
  have ha:=h a χ
  have hb:=h b χ
  have hc:=h c χ
  obtain⟨h1,h2,h3⟩:=wj r (fun x hx=>h x (by simp [hx]))
  simp only [dV,fC,h1,h3]
  refine⟨?_,h2,trivial⟩
  simp
  omega
theorem qs:∀ (t:List Nat),(∀ x∈t,x<256)→∀ v∈fC t,v<64
 | [],_=>by simp [fC]
 | [a],h=>by
  have ha:=h a χ
  simp [fC]
  omega
 | [a,b],h=>by
  have ha:=h a χ
  have hb:=h b χ
  simp [fC]
  omega
 | a::b::c::r,h=>by
  have ha:=h a χ
  have hb:=h b χ
  have hc:=h c χ
  have ih:=qs r (fun x hx=>h x (by simp [hx]))
  intro v hv
  simp only [fC,bD] at hv
  rcases hv with rfl|rfl|rfl|rfl|hv
  ·omega
  ·omega
  ·omega
  ·omega
  ·exact ih v hv
theorem EF:∀ (s:List Nat),(∀ x∈s,x<64)→∀ v∈(dV s).out,v<256
 | [],_=>by simp [dV]
 | [a],_=>by simp [dV]
 | [a,b],h=>by
  have ha:=h a χ
  have hb:=h b χ
  simp [dV]
  omega
 | [a,b,c],h=>by
  have ha:=h a χ
  have hb:=h b χ
  have hc:=h c χ
  simp [dV]
  omega
 | a::b::c::d::r,h=>by
  have ha:=h a χ
  have hb:=h b χ
  have hc:=h c χ
  have hd:=h d χ
  have ih:=EF r (fun x hx=>h x (by simp [hx]))
  intro v hv
  simp only [dV,bD] at hv
  rcases hv with rfl|rfl|rfl|hv
  ·omega
  ·omega
  ·omega
  ·exact ih v hv
theorem nF:∀ (t:List Nat),(fC t).length=(8 * t.length+5) / 6
 | []=>by simp [fC]
 | [a]=>by simp [fC]
 | [a,b]=>by simp [fC]
 | a::b::c::r=>by
  have ih:=nF r
  simp only [fC,aB,ih]
  omega
def jM:List UInt8:=[65,66,67,68,69,70,71,72,73,74,75,76,77,78,79,80,81,82,83,84,85,86,87,88,89,90,97,98,99,100,101,102,103,104,105,106,107,108,109,110,111,112,113,114,115,116,117,118,119,120,121,122,48,49,50,51,52,53,54,55,56,57,43,47]
def bt(v:Nat):UInt8:=jM.getD v 0
def ja(c:UInt8):Option Nat:=jM.findIdx? (fun x=>x==c)
theorem wT:∀ v,v<64→ja (bt v)=some v:=by decide +kernel
theorem Br:∀ v,v<64→bt v≠61:=by decide +kernel
theorem CQ:ja 61=none:=by decide +kernel
theorem rS{c:UInt8}{v:Nat}(h:ja c=some v):v<64∧bt v=c:=by
 unfold ja at h
 rw [List.findIdx?_eq_some_iff_getElem] at h
 obtain⟨h1,h2,_⟩:=h
 refine⟨h1, ?_⟩
 unfold bt
 rw [List.getD_eq_getElem?_getD,ap h1]
 simpa using h2
def hH:List UInt8→Option (List Nat)
 | []=>some []
 | c::r=>match ja c with
  | some v=>(hH r).map (v::·)
  | none=>none
def iY:List UInt8→List Nat
 | []=>[]
 | c::r=>match ja c with
  | some v=>v::iY r
  | none=>[]
def iA(s:List UInt8):List UInt8:=(s.reverse.dropWhile (fun b=>b==61)).reverse
def gx(s:List UInt8):List UInt8:=(fC (s.map aK)).map bt
def gW(n:Nat):Nat:=(4 - n % 4) % 4
def iw(s:List UInt8):List UInt8:=gx s++a8 (gW (gx s).length) 61
def qv(s:List UInt8):Option (List UInt8) :=
 if (iA s).length≠s.length∧(s.length % 4≠0∨2<s.length - (iA s).length) then none else
  match hH (iA s) with
  | none=>none
  | some V=>if (dV V).wait=6∨(dV V).rest≠0 then none else some ((dV V).out.map az)
def tX(s:List UInt8):List UInt8:=(dV (iY s)).out.map az
def zH(s:List UInt8):Option (List UInt8):=if s≠gx (tX s)∧s≠iw (tX s) then none else some (tX s)
theorem wQ:∀ (V:List Nat),(∀ v∈V,v<64)→hH (V.map bt)=some V
 | [],_=>rfl
 | v::V,h=>by
  rw [al,hH,wT v (h v χ),wQ V (fun x hx=>h x (by simp [hx]))]
  rfl
theorem pZ:∀ {s:List UInt8}{V:List Nat},hH s=some V→s=V.map bt∧∀ v∈V,v<64
 | [],V,h=>by cases h;simp
 | c::r,V,h=>by
  rw [hH] at h
  cases hc:ja c with
  | none=>rw [hc] at h;cases h
  | some v =>
   rw [hc] at h
   simp only at h
   cases hr:hH r with
   | none=>rw [hr] at h;cases h
   | some W =>
    rw [hr] at h
    cases h
    obtain⟨h1,h2⟩:=pZ hr
    obtain⟨h3,h4⟩:=rS hc
    refine⟨by rw [al,h4,← h1], ?_⟩
    intro x hx
    rcases bD.1 hx with rfl|hx
    ·exact h3
    ·exact h2 x hx
theorem mG:∀ (V:List Nat) (k:Nat),(∀ v∈V,v<64)→iY (V.map bt++a8 k 61)=V
 | [],k,_=>by
  cases k with
  | zero=>rfl
  | succ k=>simp [ml,iY,CQ]
 | v::V,k,h=>by
  rw [al,fQ,iY,wT v (h v χ)]
  simp only
  rw [mG V k (fun x hx=>h x (by simp [hx]))]
theorem EE(l:List UInt8)(k:Nat):(a8 k (61:UInt8)++l).dropWhile (fun b=>b==61)=l.dropWhile (fun b=>b==61):=by
 induction k with
 | zero=>rfl
 | succ k ih=>rw [ml,fQ,uZ (by rfl),ih]
theorem C1(V:List Nat)(k:Nat)(h:∀ v∈V,v<64):iA (V.map bt++a8 k 61)=V.map bt:=by
 unfold iA
 rw [Cu,yH,EE]
 cases hV:(V.map bt).reverse with
 | nil=>have:=congrArg List.reverse hV;simp at this;simp [this]
 | cons c r =>
  have hc:c∈V.map bt:=by rw [← List.mem_reverse,hV];simp
  obtain⟨v,hv,rfl⟩:=aN.1 hc
  have hn:=Br v (h v hv)
  rw [u6 (by simpa using hn),← hV,A7]
theorem sW:∀ (l:List UInt8),∃ k,l=a8 k 61++l.dropWhile (fun b=>b==61)
 | []=>⟨0,rfl⟩
 | c::r=>by
  by_cases hc:c=61
  ·subst hc
   obtain⟨k,hk⟩:=sW r
   refine⟨k+1, ?_⟩
   rw [uZ (by rfl),ml,fQ,← hk]
  ·refine⟨0, ?_⟩
   rw [u6 (by simpa using hc)]
   rfl
theorem rT(s:List UInt8):∃ k,s=iA s++a8 k 61:=by
 obtain⟨k,hk⟩:=sW s.reverse
 refine⟨k, ?_⟩
 have:=congrArg List.reverse hk
 rw [A7,Cu,yH] at this
 exact this
theorem ta:∀ V:List Nat,(dV V).wait=6↔V.length % 4=1
 | []=>by simp [dV]
 | [a]=>by simp [dV]
 | [a,b]=>by simp [dV]
 | [a,b,c]=>by simp [dV]
 | a::b::c::d::r=>by
  have ih:=ta r
  simp only [dV,aB,ih]
  omega
theorem kL:∀ (l:List Nat),(∀ v∈l,v<256)→(l.map az).map aK=l
 | [],_=>rfl
 | a::l,h=>by
  have ha:=h a χ
  rw [al,al,kL l (fun x hx=>h x (by simp [hx]))]
  congr 1
  simp [UInt8.toNat_ofNat']
  omega
theorem toNat_lt(t:List UInt8):∀ v∈t.map aK,v<256:=by
 intro v hv
 obtain⟨c,_,rfl⟩:=aN.1 hv
 exact c.toNat_lt
theorem x9(s:List UInt8):qv s=zH s:=by
 by_cases hs:∃ (V:List Nat) (k:Nat),(∀ v∈V,v<64)∧s=V.map bt++a8 k 61
 ·obtain⟨V,k,hV,rfl⟩:=hs
  unfold qv zH tX
  rw [mG V k hV,C1 V k hV,wQ V hV]
  have ho:=EF V hV
  have hw:=ta V
  by_cases hq:(dV V).wait=6∨(dV V).rest≠0
  ·simp only
   rw [if_pos hq]
   have hno:¬ ((V.map bt++a8 k 61=gx ((dV V).out.map az))∨(V.map bt++a8 k 61=iw ((dV V).out.map az))):=by
    intro he
    have he':∃ j,V.map bt++a8 k 61=gx ((dV V).out.map az)++a8 j 61:=by
     rcases he with he|he
     ·exact⟨0,by simpa using he⟩
     ·exact⟨_,he⟩
    obtain⟨j,he⟩:=he'
    have ht:=congrArg iY he
    unfold gx at ht
    rw [mG V k hV,kL _ ho,mG _ j (qs _ ho)] at ht
    obtain⟨_,h2,h3⟩:=wj _ ho
    rw [← ht] at h2 h3
    rcases hq with hq|hq
    ·exact h2 hq
    ·exact hq h3
   split
   ·rw [if_pos ⟨fun e=>hno (.inl e),fun e=>hno (.inr e)⟩]
   ·rw [if_pos ⟨fun e=>hno (.inl e),fun e=>hno (.inr e)⟩]
  ·have h1:(dV V).wait≠6:=fun e=>hq (.inl e)
   have h2:(dV V).rest=0:=Decidable.byContradiction fun e=>hq (.inr e)
   have hb:gx ((dV V).out.map az)=V.map bt:=by
    unfold gx
    rw [kL _ ho,AR V hV h1 h2]
   simp only
   rw [if_neg hq]
   unfold iw
   rw [hb]
   simp only [ah,bi,List.length_replicate]
   have hl:V.length % 4≠1:=fun e=>h1 (hw.2 e)
   have hk0:(V.map bt++a8 k 61=V.map bt)↔k=0:=by
    constructor
    ·intro e
     have:=congrArg jI e
     simp at this
     exact this
    ·rintro rfl;simp
   have hkp:(V.map bt++a8 k 61=V.map bt++a8 (gW V.length) 61)↔k=gW V.length:=by
    constructor
    ·intro e
     have:=congrArg jI e
     simp at this
     exact this
    ·rintro rfl;rfl
   by_cases hg:k=0∨k=gW V.length
   ·rw [if_neg (by unfold gW at hg;omega),if_neg (by rw [ne_eq,ne_eq,hk0,hkp];omega)]
   ·rw [if_pos (by unfold gW at hg;omega),if_pos (by rw [ne_eq,ne_eq,hk0,hkp];omega)]
 ·have e1:qv s=none:=by
   unfold qv
   split
   ·rfl
   ·cases hv:hH (iA s) with
    | none=>rfl
    | some V =>
     exfalso
     obtain⟨k,hk⟩:=rT s
     obtain⟨h1,h2⟩:=pZ hv
     exact hs ⟨V,k,h2,by rw [← h1];exact hk⟩
  have e2:zH s=none:=by
   unfold zH
   rw [if_pos]
   constructor
   ·intro e
    exact hs ⟨_,0,qs _ (toNat_lt (tX s)),by rw [Fu,aG];exact e⟩
   ·intro e
    exact hs ⟨_,_,qs _ (toNat_lt (tX s)),e⟩
  rw [e1,e2]
theorem FE(b:Nat)(R:Rt)(h:R (.ret (.int .i64 (jP b:Nat))) S):ao prog w0 257 [.int .u8 b] S R:=by
 refine eN func257 rfl ntmps257 fun hO=>?_
 repeat' first|refine st ?_|(refine br ?_ ?_<;>intro hb)|fail
 all_goals refine fR results257 ?_
 all_goals
  refine cast (congrArg (fun v=>R (.ret (.int .i64 v)) S) ?_) h
  simp only [decide_eq_true_eq,decide_eq_false_iff_not] at *
  unfold jP
  repeat' split
  all_goals first|omega|rfl|decide
theorem rB(b:Nat)(R:Rt)(h:R (.ret (.tup [.int .u8 (zk b:Nat),.int .u8 (zr b:Nat)])) S):ao prog w0 258 [.int .u8 b] S R:=by
 refine eN func258 rfl ntmps258 fun hO=>?_
 repeat' first|refine st ?_|(refine br ?_ ?_<;>intro hb)|fail
 all_goals refine fR results258 ?_
 all_goals
  simp only [beq_iff_eq,beq_eq_false_iff_ne,ne_eq,decide_eq_true_eq,decide_eq_false_iff_not] at *
  have e1:(b=224)=((b:Int)=224):=κ
  have e2:(b=237)=((b:Int)=237):=κ
  have e3:(b=240)=((b:Int)=240):=κ
  have e4:(b=244)=((b:Int)=244):=κ
  unfold zk zr at h
  simpa [e1,e2,e3,e4, *] using h
theorem CX(cp:Nat)(R:Rt)(h:R (.ret (.bool (tI cp))) S):ao prog w0 45 [.int .i64 cp] S R:=by
 refine eN func45 rfl ntmps45 fun hO=>?_
 repeat' first|refine st ?_|(refine br ?_ ?_<;>intro hb)|fail
 all_goals refine fR results45 ?_
 all_goals
  have e:(cp:Int).fdiv (2 ^ min 11 64)=((cp / 2048:Nat):Int):=by
   rw [show (2:Int) ^ min 11 64=2048 by decide,Int.fdiv_eq_ediv_of_nonneg _ ω]
   omega
  refine cast (congrArg (fun v=>R (.ret (.bool v)) S) ?_) h
  simp only [decide_eq_true_eq,decide_eq_false_iff_not] at hb
  unfold tI
  first
  | (rw [eU,e];simp only [aq,decide_eq_true_eq,ay,gF,decide_eq_false_iff_not,bne_iff_ne,ne_eq];omega)
  | (rw [gF];left;simp only [decide_eq_false_iff_not];omega)
theorem I0(p:List Nat)(h1:p≠[])(h4:p.length≤4)(R:Rt)(h:R (.ret (.int .i64 (di p:Nat))) S):ao prog w0 212 [.sval false (p.map By)] S R:=by
 match p,h1,h4 with
 | [a],_,_ =>
  have hl:=fun S'=>FE w0 S' a
  have hs:=fun S'=>rB w0 S' a
  obtain⟨n,hn⟩:∃ n,jP a=n:=⟨_,rfl⟩
  obtain⟨lo,hlo⟩:∃ n,zk a=n:=⟨_,rfl⟩
  obtain⟨hi,hhi⟩:∃ n,zr a=n:=⟨_,rfl⟩
  have hk:di [a]=if n<([]:List Nat).length+1 then 0 else if fO lo hi ([]:List Nat) then (if ([]:List Nat).length+1<n then 1 else 2) else 0:=by rw [di,hn,hlo,hhi]
  rw [hn] at hl
  rw [hlo,hhi] at hs
  simp only [al,aj,By]
  clear h1 h4 hn hlo hhi
  have HK:=ab hk
  clear hk
  refine eN func212 rfl ntmps212 fun hO=>?_
  repeat' first|refine st ?_|(refine ca ?_;first|apply hl|apply hs)|(refine br ?_ ?_<;>intro hb)|apply cS|apply gn|fail
  all_goals refine fR results212 ?_
  all_goals
   refine cast (congrArg (fun v=>R (.ret (.int .i64 v)) S) ?_) h
   rw [HK.out]
   simp only [fO,aB,aI,aq,decide_eq_true_eq,decide_eq_false_iff_not,lC,and_true] at *
   repeat' split
   all_goals first|omega|rfl|(exact absurd trivial (by assumption))
 | [a,b],_,_ =>
  have hl:=fun S'=>FE w0 S' a
  have hs:=fun S'=>rB w0 S' a
  obtain⟨n,hn⟩:∃ n,jP a=n:=⟨_,rfl⟩
  obtain⟨lo,hlo⟩:∃ n,zk a=n:=⟨_,rfl⟩
  obtain⟨hi,hhi⟩:∃ n,zr a=n:=⟨_,rfl⟩
  have hk:di [a,b]=if n<([b]:List Nat).length+1 then 0 else if fO lo hi ([b]:List Nat) then (if ([b]:List Nat).length+1<n then 1 else 2) else 0:=by rw [di,hn,hlo,hhi]
  rw [hn] at hl
  rw [hlo,hhi] at hs
  simp only [al,aj,By]
  clear h1 h4 hn hlo hhi
  have HK:=ab hk
  clear hk
  refine eN func212 rfl ntmps212 fun hO=>?_
  repeat' first|refine st ?_|(refine ca ?_;first|apply hl|apply hs)|(refine br ?_ ?_<;>intro hb)|apply cS|apply gn|fail
  all_goals refine fR results212 ?_
  all_goals
   refine cast (congrArg (fun v=>R (.ret (.int .i64 v)) S) ?_) h
   rw [HK.out]
   simp only [fO,aB,aI,aq,decide_eq_true_eq,decide_eq_false_iff_not,lC,and_true] at *
   repeat' split
   all_goals first|omega|rfl|(exact absurd trivial (by assumption))
 | [a,b,c],_,_ =>
  have hl:=fun S'=>FE w0 S' a
  have hs:=fun S'=>rB w0 S' a
  obtain⟨n,hn⟩:∃ n,jP a=n:=⟨_,rfl⟩
  obtain⟨lo,hlo⟩:∃ n,zk a=n:=⟨_,rfl⟩
  obtain⟨hi,hhi⟩:∃ n,zr a=n:=⟨_,rfl⟩
  have hk:di [a,b,c]=if n<([b,c]:List Nat).length+1 then 0 else if fO lo hi ([b,c]:List Nat) then (if ([b,c]:List Nat).length+1<n then 1 else 2) else 0:=by rw [di,hn,hlo,hhi]
  rw [hn] at hl
  rw [hlo,hhi] at hs
  simp only [al,aj,By]
  clear h1 h4 hn hlo hhi
  have HK:=ab hk
  clear hk
  refine eN func212 rfl ntmps212 fun hO=>?_
  repeat' first|refine st ?_|(refine ca ?_;first|apply hl|apply hs)|(refine br ?_ ?_<;>intro hb)|apply cS|apply gn|fail
  all_goals refine fR results212 ?_
  all_goals
   refine cast (congrArg (fun v=>R (.ret (.int .i64 v)) S) ?_) h
   rw [HK.out]
   simp only [fO,aB,aI,aq,decide_eq_true_eq,decide_eq_false_iff_not,lC,and_true] at *
   repeat' split
   all_goals first|omega|rfl|(exact absurd trivial (by assumption))
 | [a,b,c,d],_,_ =>
  have hl:=fun S'=>FE w0 S' a
  have hs:=fun S'=>rB w0 S' a
  obtain⟨n,hn⟩:∃ n,jP a=n:=⟨_,rfl⟩
  obtain⟨lo,hlo⟩:∃ n,zk a=n:=⟨_,rfl⟩
  obtain⟨hi,hhi⟩:∃ n,zr a=n:=⟨_,rfl⟩
  have hk:di [a,b,c,d]=if n<([b,c,d]:List Nat).length+1 then 0 else if fO lo hi ([b,c,d]:List Nat) then (if ([b,c,d]:List Nat).length+1<n then 1 else 2) else 0:=by rw [di,hn,hlo,hhi]
  rw [hn] at hl
  rw [hlo,hhi] at hs
  simp only [al,aj,By]
  clear h1 h4 hn hlo hhi
  have HK:=ab hk
  clear hk
  refine eN func212 rfl ntmps212 fun hO=>?_
  repeat' first|refine st ?_|(refine ca ?_;first|apply hl|apply hs)|(refine br ?_ ?_<;>intro hb)|apply cS|apply gn|fail
  all_goals refine fR results212 ?_
  all_goals
   refine cast (congrArg (fun v=>R (.ret (.int .i64 v)) S) ?_) h
   rw [HK.out]
   simp only [fO,aB,aI,aq,decide_eq_true_eq,decide_eq_false_iff_not,lC,and_true] at *
   repeat' split
   all_goals first|omega|rfl|(exact absurd trivial (by assumption))
theorem yP(p:List Nat)(h4:p.length≤4)(R:Rt)(h:R (.ret (.bool (e9 p))) S):ao prog w0 164 [.sval false (p.map By)] S R:=by
 by_cases hp:p=[]
 ·subst hp
  rw [Bw] at h
  simp only [aj]
  have e0:(((0:Nat):Int)==0)=true:=rfl
  clear h4
  exact γR0 func164 ntmps164 results164 h
 ·have hk:=fun S'=>I0 w0 S' p hp h4
  have hl:((p.length:Int)==0)=false:=by
   rw [beq_eq_false_iff_ne]
   intro e
   exact hp (kE.1 ω)
  have hr:e9 p=((di p:Int)==1):=by
   unfold e9
   rw [decide_eq_false hp,wG,eU,decide_eq_true_eq,beq_iff_eq]
   omega
  rw [hr] at h
  clear hr hp h4
  exact γR1 hk func164 ntmps164 results164 h
theorem Bs{c x:Nat}(hc:c<32768)(hx:x<64):ae.wrap (((ar ae.bits (ae.wrap ((c:Int) * 2 ^ min 6 64)) ||| ar ae.bits (x:Int)).toNat:Nat):Int)=((c * 64+x:Nat):Int):=by
 have e1:ae.wrap ((c:Int) * 2 ^ min 6 64)=((c * 64:Nat):Int):=by
  rw [show (2:Int) ^ min 6 64=64 by decide,ai _ ω]
  omega
 rw [e1,IU]
 have e2:(ar ae.bits ((c * 64:Nat):Int)).toNat=c * 64:=by
  show (ar 64 _).toNat=_
  rw [cH];omega
 have e3:(ar ae.bits (x:Int)).toNat=x:=by
  show (ar 64 _).toNat=_
  rw [cH];omega
 rw [e2,e3]
 have e4:c * 64 ||| x=c * 64+x:=by
  have:=Nat.shiftLeft_add_eq_or_of_lt (b:=x) (i:=6) ω c
  rw [Nat.shiftLeft_eq] at this
  exact this.symm
 rw [e4]
 exact ai _ ω
theorem uU{b:Nat}(hb:b<256):ae.wrap (a6.wrap (((ar a6.bits (b:Int) &&& ar a6.bits 63).toNat:Nat):Int))=((b % 64:Nat):Int):=by
 rw [Fz]
 have e1:(ar a6.bits (b:Int)).toNat=b:=by
  show (ar 8 _).toNat=_
  rw [cH];omega
 have e2:(ar a6.bits 63).toNat=63:=δ
 rw [e1,e2,show b &&& 63=b % 64 from z6 b 6,cR _ ω]
 exact ai _ ω
theorem Ly{b k:Nat}(hb:b<256)(hk:k≤8):ae.wrap (((ar ae.bits (b:Int) &&& ar ae.bits ((2 ^ k - 1:Nat):Int)).toNat:Nat):Int)=((b % 2 ^ k:Nat):Int):=by
 rw [Fz]
 have h2:2 ^ k≤2 ^ 8:=gM ω hk
 have h0:0<2 ^ k:=Nat.two_pow_pos k
 have e1:(ar ae.bits (b:Int)).toNat=b:=by
  show (ar 64 _).toNat=_
  rw [cH];omega
 have e2:(ar ae.bits ((2 ^ k - 1:Nat):Int)).toNat=2 ^ k - 1:=by
  show (ar 64 _).toNat=_
  rw [cH];omega
 rw [e1,e2,z6 b k]
 have:=eh b h0
 exact ai _ ω
theorem LN(p:List Nat)(hk:di p=2)(hb:∀ x∈p,x<256)(R:Rt)(h:R (.ret (.int .i64 (iL p:Nat))) S):ao prog w0 259 [.sval false (p.map By)] S R:=by
 match p with
 | []=>cases hk
 | [a] =>
  have h:R (.ret (.int .i64 a)) S:=h
  simp only [al,aj,By]
  have ha:=hb a χ
  have hw:ae.wrap (a:Int)=a:=ai _ ω
  clear hb hk
  refine eN func259 rfl ntmps259 fun hO=>?_
  repeat' first|refine st ?_|(refine br ?_ ?_<;>intro hb)|apply cS|apply gn|fail
  all_goals refine fR results259 ?_
  exact h
 | [a,b] =>
  simp only [al,aj,By]
  have ha:=hb a χ
  have hw:ae.wrap (a:Int)=a:=ai _ ω
  have gf:(255:Int).fdiv (2 ^ min (ae.wrap (((2:Nat):Int)+1)).toNat 64)=((2 ^ 5 - 1:Nat):Int):=δ
  have ga:=Ly (b:=a) (k:=5) ha ω
  obtain⟨c0,hc0⟩:∃ c0,a % 2 ^ 5=c0:=⟨_,rfl⟩
  have hc0l:c0<32:=by rw [← hc0];exact eh _ δ
  rw [hc0] at ga
  have gb:=uU (hb b χ)
  have mb:b % 64<64:=eh _ ω
  have q1:=Bs (c:=c0) (x:=b % 64) ω mb
  obtain⟨c1,hc1⟩:∃ cc,c0 * 64+b % 64=cc:=⟨_,rfl⟩
  have hc1l:c1<2048:=ω
  rw [hc1] at q1
  have hcode:iL [a,b]=c1:=by
   have e:iL [a,b]=a % 2 ^ (7 - (1+1)) * 64+b % 64:=rfl
   rw [e]
   have e2:a % 2 ^ 5=a % (2 ^ (7 - (1+1))):=rfl
   omega
  rw [hcode] at h
  clear hb hk hcode ha
  simp only [bk] at ga gb q1
  refine eN func259 rfl ntmps259 fun hO=>?_
  repeat' first|refine st ?_|(refine br ?_ ?_<;>intro hb)|apply cS|apply gn|fail
  all_goals refine fR results259 ?_
  exact h
 | [a,b,c] =>
  simp only [al,aj,By]
  have ha:=hb a χ
  have hw:ae.wrap (a:Int)=a:=ai _ ω
  have gf:(255:Int).fdiv (2 ^ min (ae.wrap (((3:Nat):Int)+1)).toNat 64)=((2 ^ 4 - 1:Nat):Int):=δ
  have ga:=Ly (b:=a) (k:=4) ha ω
  obtain⟨c0,hc0⟩:∃ c0,a % 2 ^ 4=c0:=⟨_,rfl⟩
  have hc0l:c0<16:=by rw [← hc0];exact eh _ δ
  rw [hc0] at ga
  have gb:=uU (hb b χ)
  have mb:b % 64<64:=eh _ ω
  have q1:=Bs (c:=c0) (x:=b % 64) ω mb
  obtain⟨c1,hc1⟩:∃ cc,c0 * 64+b % 64=cc:=⟨_,rfl⟩
  have hc1l:c1<1024:=ω
  rw [hc1] at q1
  have gc:=uU (hb c χ)
  have mc:c % 64<64:=eh _ ω
  have q2:=Bs (c:=c1) (x:=c % 64) ω mc
  obtain⟨c2,hc2⟩:∃ cc,c1 * 64+c % 64=cc:=⟨_,rfl⟩
  have hc2l:c2<65536:=ω
  rw [hc2] at q2
  have hcode:iL [a,b,c]=c2:=by
   have e:iL [a,b,c]=(a % 2 ^ (7 - (2+1)) * 64+b % 64) * 64+c % 64:=rfl
   rw [e]
   have e2:a % 2 ^ 4=a % (2 ^ (7 - (2+1))):=rfl
   omega
  rw [hcode] at h
  clear hb hk hcode ha
  simp only [bk] at ga gb q1 gc q2
  refine eN func259 rfl ntmps259 fun hO=>?_
  repeat' first|refine st ?_|(refine br ?_ ?_<;>intro hb)|apply cS|apply gn|fail
  all_goals refine fR results259 ?_
  exact h
 | [a,b,c,d] =>
  simp only [al,aj,By]
  have ha:=hb a χ
  have hw:ae.wrap (a:Int)=a:=ai _ ω
  have gf:(255:Int).fdiv (2 ^ min (ae.wrap (((4:Nat):Int)+1)).toNat 64)=((2 ^ 3 - 1:Nat):Int):=δ
  have ga:=Ly (b:=a) (k:=3) ha ω
  obtain⟨c0,hc0⟩:∃ c0,a % 2 ^ 3=c0:=⟨_,rfl⟩
  have hc0l:c0<8:=by rw [← hc0];exact eh _ δ
  rw [hc0] at ga
  have gb:=uU (hb b χ)
  have mb:b % 64<64:=eh _ ω
  have q1:=Bs (c:=c0) (x:=b % 64) ω mb
  obtain⟨c1,hc1⟩:∃ cc,c0 * 64+b % 64=cc:=⟨_,rfl⟩
  have hc1l:c1<512:=ω
  rw [hc1] at q1
  have gc:=uU (hb c χ)
  have mc:c % 64<64:=eh _ ω
  have q2:=Bs (c:=c1) (x:=c % 64) ω mc
  obtain⟨c2,hc2⟩:∃ cc,c1 * 64+c % 64=cc:=⟨_,rfl⟩
  have hc2l:c2<32768:=ω
  rw [hc2] at q2
  have gd:=uU (hb d χ)
  have md:d % 64<64:=eh _ ω
  have q3:=Bs (c:=c2) (x:=d % 64) ω md
  obtain⟨c3,hc3⟩:∃ cc,c2 * 64+d % 64=cc:=⟨_,rfl⟩
  have hc3l:c3<2097152:=ω
  rw [hc3] at q3
  have hcode:iL [a,b,c,d]=c3:=by
   have e:iL [a,b,c,d]=((a % 2 ^ (7 - (3+1)) * 64+b % 64) * 64+c % 64) * 64+d % 64:=rfl
   rw [e]
   have e2:a % 2 ^ 3=a % (2 ^ (7 - (3+1))):=rfl
   omega
  rw [hcode] at h
  clear hb hk hcode ha
  simp only [bk] at ga gb q1 gc q2 gd q3
  refine eN func259 rfl ntmps259 fun hO=>?_
  repeat' first|refine st ?_|(refine br ?_ ?_<;>intro hb)|apply cS|apply gn|fail
  all_goals refine fR results259 ?_
  exact h
 | a::b::c::d::e::r =>
  obtain⟨h1,_⟩:=qX hk
  have:jP a≤4:=by
   unfold jP
   repeat' split
   all_goals omega
  simp at h1
  omega
@[go_sem] theorem By.all1(l:List Nat):((l.map By).all fun el=>el.cells.length==1)=true:=by
 rw [aD];intro x hx;obtain⟨y,_,rfl⟩:=aN.1 hx;rfl
theorem JE(p:List Nat)(hr:e9 p=true)(R:Rt)(h:R (.ret (.sval false ((gU p).map Co))) S):ao prog w0 269 [.sval false (p.map By)] S R:=by
 have hri:=fun S'=>yP w0 S' p (t_ (nu hr))
 rw [hr] at hri
 by_cases hp:p=[]
 ·subst hp
  have h:R (.ret (.sval false [])) S:=h
  have e0:decide ((0:Int)<((0:Nat):Int))=false:=rfl
  simp only [aj]
  clear hr hri
  exact γR0 func269 ntmps269 results269 h
 ·have hl:decide ((0:Int)<(p.length:Int))=true:=by
   cases p with
   | nil=>exact absurd rfl hp
   | cons a r=>simp only [aB,decide_eq_true_eq];omega
  rw [gU,if_neg hp] at h
  have h:R (.ret (.sval false [AV.int .i64 65533])) S:=h
  clear hr hp
  exact γR1 hri func269 ntmps269 results269 h
def iB(q:List Nat × List Nat):AV:=.tup [.sval false (q.1.map By),.sval false (q.2.map Co)]
theorem CW(p:List Nat)(b:Nat)(hb:b<256)(hr:e9 p=true)(hp:∀ x∈p,x<256)
  (hrec:p≠[]→∀ (S':List aH) (R:Rt),R (.ret (iB (gR b))) S'→ao prog w0 213 [.sval false [],.int .u8 b] S' R)
  (R:Rt) (h:R (.ret (iB (dN p b))) S):ao prog w0 213 [.sval false (p.map By),.int .u8 b] S R:=by
 have hl3:=nu hr
 have hri:=fun S'=>yP w0 S' p (t_ hl3)
 rw [hr] at hri
 have hk:=fun S'=>I0 w0 S' (p++[b]) χ κ
 have hb1:(p.length+1) * 1≤140737488355328:=ω
 have happ:bn By p++[AV.int .u8 b]=bn By (p++[b]):=by rw [aM];rfl
 have hlen:(p++[b]).length=p.length+1:=χ
 have htk:rg p.length (bn By p)=bn By p:=dJ χ
 have hc:=fun S' (hh:di (p++[b])=2)=>LN w0 S' (p++[b]) hh (by
  intro x hx
  rcases bV.1 hx with hx|hx
  ·exact hp x hx
  ·rw [a_.1 hx];exact hb)
 have hall:=By.all1 p
 simp only [AV.cells] at hall
 have okA:=By.ok p
 simp only [cI,AV.cells] at okA
 have hle:(p.length:Int)≤(p.length:Int):=Fy _
 have hbe:(p.length==p.length)=true:=χ
 unfold dN at h
 have Happ:=ab happ
 have Hc:=ab hc
 have Hrec:=ab hrec
 have H:=ab h
 clear hp hb happ hc hrec h hl3 hr
 refine eN func213 rfl ntmps213 fun hO=>?_
 refine ε1 hri ?_
 rw [Happ.out]
 refine i8 (S.length+1) ss ?_
 try simp only [go_sem, *]
 obtain⟨kd,hkd⟩:∃ kd,di (p++[b])=kd:=⟨_,rfl⟩
 rw [hkd] at hk
 have h012:kd=0∨kd=1∨kd=2:=by
  rw [← hkd]
  cases p with
  | nil =>
   simp only [gu,di];repeat' split
   all_goals simp
  | cons a r =>
   simp only [fQ,di];repeat' split
   all_goals simp
 rcases h012 with rfl|rfl|rfl
 ·have hh:=H.out
  rw [hkd,if_neg δ,if_neg δ] at hh
  clear hkd
  by_cases hp:p=[]
  ·subst hp
   rw [if_pos rfl] at hh
   have e0:(((0:Nat):Int)==0)=true:=rfl
   unfold iB at hh
   simp only [al,aj,Co] at hh
   refine ε1 hk ?_
   refine fR results213 ?_
   exact hh
  ·rw [if_neg hp] at hh
   have hrec:=Hrec.out hp
   have hl0:((p.length:Int)==0)=false:=by
    rw [beq_eq_false_iff_ne]
    intro e
    exact hp (kE.1 ω)
   have hq1:(gR b).2.length≤1:=by unfold gR;split<;>(try split)<;>simp
   generalize gR b=q at hrec hh hq1
   obtain⟨q1,q2⟩:=q
   unfold iB at hh hrec
   simp only [al,Co] at hh hrec hq1
   have okC:=Co.ok q2
   simp only [cI,AV.cells] at okC
   have hb8:(1+q2.length) * 8≤140737488355328:=ω
   clear hp hq1
   refine ε2 hk hrec ?_
   have hcm:(1+q2.length=q2.length+1)=True:=by rw [Nat.add_comm];simp
   refine fR results213 ?_
   exact hh
 ·have hh:=H.out
  rw [hkd,if_neg δ,if_pos rfl] at hh
  unfold iB at hh
  simp only [aj] at hh
  clear hkd
  refine ε1 hk ?_
  refine fR results213 ?_
  exact hh
 ·have hh:=H.out
  rw [hkd,if_pos rfl] at hh
  have hc:=fun S'=>Hc.out S' hkd
  unfold iB at hh
  simp only [al,aj,Co] at hh
  clear hkd
  refine ε2 hk hc ?_
  refine fR results213 ?_
  exact hh
theorem JD(b:Nat)(hb:b<256)(R:Rt)(h:R (.ret (iB (gR b))) S):ao prog w0 213 [.sval false [],.int .u8 b] S R:=by
 refine CW w0 S [] b hb rfl χ (fun hh=>absurd rfl hh) R ?_
 have e:dN [] b=gR b:=by unfold dN gR;simp
 rw [e];exact h
theorem IZ(p:List Nat)(b:Nat)(hb:b<256)(hr:e9 p=true)(hp:∀ x∈p,x<256)(R:Rt)(h:R (.ret (iB (dN p b))) S) :
  ao prog w0 213 [.sval false (p.map By),.int .u8 b] S R :=
 CW w0 S p b hb hr hp (fun _ S' R h=>JD w0 S' b hb R h) R h
end Go.Proofs.YthdbijpefkapnaaGreatDoor
