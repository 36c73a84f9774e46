/- YthdbijpefkapnaaGreatDoorWalk0: a part of the proof. -/
import Derived.Test.YthdbijpefkapnaaGreatDoorCore4
import Derived.Test.YthdbijpefkapnaaGreatDoorCore3
import Derived.Test.YthdbijpefkapnaaGreatDoorTy
set_option linter.all false
set_option maxHeartbeats 40000000
open BitVec renaming ofInt → ar, toNat_and → Ew, toNat_ofInt → cA, toNat_or → GV
open Bool renaming and_eq_false_iff → gp, and_eq_true → ao, eq_iff_iff → eB, false_or → vH, not_eq_true' → aw, or_eq_true → eF, true_eq_false → k_
open Go.IntKind renaming bits → bh, i64 → ae, u8 → aX
open Go.IntWalk renaming i64_in → ah, u8_in → di
open Go.Lib renaming hid → ab
open Int renaming le_refl → Eu
open List renaming all_eq_true → aC, append_nil → aG, cons_append → ft, dropWhile_cons_of_neg → uf, dropWhile_cons_of_pos → ue, foldl_cons → gI, getElem?_eq_getElem → al, length → iz, length_append → ai, length_cons → aB, length_eq_zero_iff → j_, length_map → be, length_nil → aL, map → bx, map_append → aY, map_cons → ap, map_nil → aq, mem_append → cH, mem_cons → bz, mem_map → aM, mem_singleton → bk, nil_append → fS, replicate → a7, replicate_succ → lL, replicate_zero → Ep, reverse_append → Bz, reverse_replicate → xI, reverse_reverse → zY, take → pi, take_of_length_le → dV
open Nat renaming and_two_pow_sub_one_eq_mod → yT, le_refl → a8, le_succ_of_le → s_, mod_lt → dY, pow_le_pow_right → gw, reduceSub → eH
open UInt8 renaming ofNat → ay, toNat → aJ
namespace Go.Proofs.YthdbijpefkapnaaGreatDoor
open Go Go.Fen Go.Proofs.Tryz
attribute [local irreducible] aW WP aj dS jl cQ aV cV
set_option maxRecDepth 8000
variable (w0:World) (S:List aH)
def jt(b:Nat):Nat:=if b<128 then 1 else if b<194 then 0 else if b<224 then 2 else if b<240 then 3 else if b<245 then 4 else 0
def yh(b:Nat):Nat:=if b=224 then 160 else if b=240 then 144 else 128
def yo(b:Nat):Nat:=if b=237 then 159 else if b=244 then 143 else 191
def fC:Nat→Nat→List Nat→Bool
 | _,_,[]=>true
 | lo,hi,b::r=>decide (lo≤b)&&(decide (b≤hi)&&fC 128 191 r)
def dc:List Nat→Nat
 | []=>0
 | b::r=>if jt b<r.length+1 then 0 else if fC (yh b) (yo b) r then (if r.length+1<jt b then 1 else 2) else 0
def ij:List Nat→Nat
 | []=>0
 | b::r=>r.foldl (fun c x=>c * 64+x % 64) (if r=[] then b else b % 2 ^ (7 - (r.length+1)))
def bZ(b:Nat):Nat × Nat:=if b<128 then (1,b) else if b<192 then (0,0) else if b<224 then (2,b - 192) else if b<240 then (3,b - 224) else if b<248 then (4,b - 240) else (0,0)
def ew:Nat→List Nat→Nat→Nat→Option (Nat × Nat)
 | 0,_,lo,hi=>some (lo,hi)
 | n+1,[],lo,hi=>ew n [] (lo * 64) (hi * 64+63)
 | n+1,b::r,lo,hi=>if b<128∨191<b then none else ew n r (lo * 64+(b - 128)) (hi * 64+(b - 128))
def fB:List Nat→Nat × Nat × Nat
 | []=>(0,0,0)
 | b::r=>match ew ((bZ b).1 - 1) r (bZ b).2 (bZ b).2 with
  | none=>(0,0,0)
  | some (lo,hi)=>if (bZ b).1<r.length+1 then (0,0,0) else (lo,hi,(bZ b).1)
def pJ:Nat→Nat|2=>128|3=>2048|4=>65536|_=>0
def tw:Nat→Nat|1=>127|2=>2047|3=>65535|4=>1114111|_=>0
def jZ(p:List Nat):Bool × Bool :=
 let s:=fB p
 if s.2.2=0 then (false,false) else
  let lo:=max s.1 (pJ s.2.2)
  let hi:=min s.2.1 (tw s.2.2)
  let is:=decide (lo≤hi)&&!(decide (55296≤lo)&&decide (hi≤57343))
  (is,is&&decide (p.length=s.2.2))
theorem cO(a:Nat) :
  (a<128∧bZ a=(1,a)∧jt a=1)∨((128≤a∧a<192∨248≤a)∧bZ a=(0,0)∧jt a=0)∨(192≤a∧a<194∧bZ a=(2,a - 192)∧jt a=0) ∨
  (194≤a∧a<224∧bZ a=(2,a - 192)∧jt a=2)∨(224≤a∧a<240∧bZ a=(3,a - 224)∧jt a=3)∨(240≤a∧a<245∧bZ a=(4,a - 240)∧jt a=4)∨(245≤a∧a<248∧bZ a=(4,a - 240)∧jt a=0):=by
 unfold bZ jt
 repeat' split
 all_goals simp
 all_goals omega
theorem Bf(a:Nat){b:Nat}{r:List Nat}(hb:b<128∨191<b):fC (yh a) (yo a) (b::r)=false:=by
 have h1:128≤yh a:=by
  unfold yh
  repeat' split
  all_goals omega
 have h2:yo a≤191:=by
  unfold yo
  repeat' split
  all_goals omega
 rw [fC,gp]
 rcases hb with hb|hb
 ·left;simp;omega
 ·right;rw [gp];left;simp;omega
theorem pK(a:Nat){b:Nat}{r:List Nat}(hb:b<128∨191<b):dc (a::b::r)=0:=by
 rw [dc,Bf a hb]
 simp
theorem tL(p:List Nat):jZ p=(decide (dc p≠0),decide (dc p=2)):=by
 match p with
 | []=>rfl
 | [a] =>
  rcases cO a with⟨h1,hF,hL⟩|⟨h1,hF,hL⟩|⟨h1,h2,hF,hL⟩|⟨h1,h2,hF,hL⟩|⟨h1,h2,hF,hL⟩|⟨h1,h2,hF,hL⟩|⟨h1,h2,hF,hL⟩
  all_goals simp [jZ,fB,dc,hF,hL,ew,pJ,tw,fC]
  all_goals omega
 | [a,b] =>
  by_cases hb:b<128∨191<b
  ·rw [pK (r:=[]) a hb]
   rcases cO a with⟨h1,hF,hL⟩|⟨h1,hF,hL⟩|⟨h1,h2,hF,hL⟩|⟨h1,h2,hF,hL⟩|⟨h1,h2,hF,hL⟩|⟨h1,h2,hF,hL⟩|⟨h1,h2,hF,hL⟩
   all_goals simp only [jZ,fB,hF,ew,if_pos hb,eH]
   all_goals simp
  ·rcases cO a with⟨h1,hF,hL⟩|⟨h1,hF,hL⟩|⟨h1,h2,hF,hL⟩|⟨h1,h2,hF,hL⟩|⟨h1,h2,hF,hL⟩|⟨h1,h2,hF,hL⟩|⟨h1,h2,hF,hL⟩
   all_goals simp only [jZ,fB,dc,hF,hL,ew,if_neg hb,fC,yh,yo,eH]
   all_goals (try simp [pJ,tw])
   all_goals (try refine⟨?_, ?_⟩)
   all_goals (repeat' split)
   all_goals first
    | omega
    | (rw [eB];simp only [ao,eF,decide_eq_true_eq,aw,decide_eq_false_iff_not];omega)
    | simp
 | [a,b,c] =>
  by_cases hb:b<128∨191<b
  ·rw [pK (r:=[c]) a hb]
   rcases cO a with⟨h1,hF,hL⟩|⟨h1,hF,hL⟩|⟨h1,h2,hF,hL⟩|⟨h1,h2,hF,hL⟩|⟨h1,h2,hF,hL⟩|⟨h1,h2,hF,hL⟩|⟨h1,h2,hF,hL⟩
   all_goals simp only [jZ,fB,hF,ew,if_pos hb,eH]
   all_goals simp
  ·by_cases hc:c<128∨191<c
   ·have hk:dc [a,b,c]=0:=by
     rw [dc,fC,fC]
     have e:(decide (128≤c)&&(decide (c≤191)&&fC 128 191 []))=false:=by
      rcases hc with hc|hc
      ·simp;omega
      ·simp;omega
     rw [e]
     simp
    rw [hk]
    rcases cO a with⟨h1,hF,hL⟩|⟨h1,hF,hL⟩|⟨h1,h2,hF,hL⟩|⟨h1,h2,hF,hL⟩|⟨h1,h2,hF,hL⟩|⟨h1,h2,hF,hL⟩|⟨h1,h2,hF,hL⟩
    all_goals simp only [jZ,fB,hF,ew,if_neg hb,if_pos hc,eH]
    all_goals simp
   ·rcases cO a with⟨h1,hF,hL⟩|⟨h1,hF,hL⟩|⟨h1,h2,hF,hL⟩|⟨h1,h2,hF,hL⟩|⟨h1,h2,hF,hL⟩|⟨h1,h2,hF,hL⟩|⟨h1,h2,hF,hL⟩
    all_goals simp only [jZ,fB,dc,hF,hL,ew,if_neg hb,if_neg hc,fC,yh,yo,eH]
    all_goals (try simp [pJ,tw])
    all_goals (try refine⟨?_, ?_⟩)
    all_goals (repeat' split)
    all_goals first
     | omega
     | (rw [eB];simp only [ao,eF,decide_eq_true_eq,aw,decide_eq_false_iff_not];omega)
     | simp
 | [a,b,c,d] =>
  by_cases hb:b<128∨191<b
  ·rw [pK (r:=[c,d]) a hb]
   rcases cO a with⟨h1,hF,hL⟩|⟨h1,hF,hL⟩|⟨h1,h2,hF,hL⟩|⟨h1,h2,hF,hL⟩|⟨h1,h2,hF,hL⟩|⟨h1,h2,hF,hL⟩|⟨h1,h2,hF,hL⟩
   all_goals simp only [jZ,fB,hF,ew,if_pos hb,eH]
   all_goals simp
  ·by_cases hc:c<128∨191<c
   ·have hk:dc [a,b,c,d]=0:=by
     rw [dc,fC,fC]
     have e:(decide (128≤c)&&(decide (c≤191)&&fC 128 191 [d]))=false:=by
      rcases hc with hc|hc
      ·simp;omega
      ·simp;omega
     rw [e]
     simp
    rw [hk]
    rcases cO a with⟨h1,hF,hL⟩|⟨h1,hF,hL⟩|⟨h1,h2,hF,hL⟩|⟨h1,h2,hF,hL⟩|⟨h1,h2,hF,hL⟩|⟨h1,h2,hF,hL⟩|⟨h1,h2,hF,hL⟩
    all_goals simp only [jZ,fB,hF,ew,if_neg hb,if_pos hc,eH]
    all_goals simp
   ·by_cases hd:d<128∨191<d
    ·have hk:dc [a,b,c,d]=0:=by
      rw [dc,fC,fC,fC]
      have e:(decide (128≤d)&&(decide (d≤191)&&fC 128 191 []))=false:=by
       rcases hd with hd|hd
       ·simp;omega
       ·simp;omega
      rw [e]
      simp
     rw [hk]
     rcases cO a with⟨h1,hF,hL⟩|⟨h1,hF,hL⟩|⟨h1,h2,hF,hL⟩|⟨h1,h2,hF,hL⟩|⟨h1,h2,hF,hL⟩|⟨h1,h2,hF,hL⟩|⟨h1,h2,hF,hL⟩
     all_goals simp only [jZ,fB,hF,ew,if_neg hb,if_neg hc,if_pos hd,eH]
     all_goals simp
    ·rcases cO a with⟨h1,hF,hL⟩|⟨h1,hF,hL⟩|⟨h1,h2,hF,hL⟩|⟨h1,h2,hF,hL⟩|⟨h1,h2,hF,hL⟩|⟨h1,h2,hF,hL⟩|⟨h1,h2,hF,hL⟩
     all_goals simp only [jZ,fB,dc,hF,hL,ew,if_neg hb,if_neg hc,if_neg hd,fC,yh,yo,eH]
     all_goals (try simp [pJ,tw])
     all_goals (try refine⟨?_, ?_⟩)
     all_goals (repeat' split)
     all_goals first
      | omega
      | (rw [eB];simp only [ao,eF,decide_eq_true_eq,aw,decide_eq_false_iff_not];omega)
      | simp
 | a::b::c::d::e::r =>
  have hl:jt a≤4:=by
   unfold jt;repeat' split
   all_goals omega
  have hf:(bZ a).1≤4:=by
   unfold bZ;repeat' split
   all_goals simp
  have hk:dc (a::b::c::d::e::r)=0:=by
   rw [dc,if_pos (by simp;omega)]
  have hs:fB (a::b::c::d::e::r)=(0,0,0):=by
   rw [fB]
   cases ew ((bZ a).1 - 1) (b::c::d::e::r) (bZ a).2 (bZ a).2 with
   | none=>rfl
   | some q=>simp only [];rw [if_pos (by simp;omega)]
  rw [hk]
  simp [jZ,hs]
theorem xi{lo hi:Nat}{l:List Nat}(h:fC lo hi l=true)(h1:128≤lo)(h2:hi≤191):∀ x∈l,128≤x∧x≤191:=by
 induction l generalizing lo hi with
 | nil=>intro x hx;cases hx
 | cons b r ih =>
  simp only [fC,ao,decide_eq_true_eq] at h
  intro x hx
  rcases bz.1 hx with rfl|hx
  ·omega
  ·exact ih h.2.2 (a8 _) (a8 _) x hx
theorem Dk(a:Nat):128≤yh a:=by
 unfold yh
 repeat' split
 all_goals omega
theorem Dq(a:Nat):yo a≤191:=by
 unfold yo
 repeat' split
 all_goals omega
theorem qm{a:Nat}{r:List Nat}(h:dc (a::r)=2):jt a=r.length+1∧∀ x∈r,128≤x∧x≤191:=by
 rw [dc] at h
 split at h
 ·cases h
 ·split at h
  ·next hc =>
   split at h
   ·cases h
   ·exact⟨by omega,xi hc (Dk a) (Dq a)⟩
  ·cases h
theorem Aq{p:List Nat}(h:dc p=2):(fB p).1=ij p:=by
 match p with
 | []=>rfl
 | [a] =>
  obtain⟨h1,_⟩:=qm h
  rcases cO a with⟨h2,hF,hL⟩|⟨h2,hF,hL⟩|⟨h2,h3,hF,hL⟩|⟨h2,h3,hF,hL⟩|⟨h2,h3,hF,hL⟩|⟨h2,h3,hF,hL⟩|⟨h2,h3,hF,hL⟩
  all_goals (rw [hL] at h1;simp at h1)
  simp [fB,hF,ew,ij]
 | [a,b] =>
  obtain⟨h1,hb⟩:=qm h
  have hb:=hb b (by simp)
  have nb:¬ (b<128∨191<b):=by omega
  rcases cO a with⟨h2,hF,hL⟩|⟨h2,hF,hL⟩|⟨h2,h3,hF,hL⟩|⟨h2,h3,hF,hL⟩|⟨h2,h3,hF,hL⟩|⟨h2,h3,hF,hL⟩|⟨h2,h3,hF,hL⟩
  all_goals (rw [hL] at h1;simp at h1)
  simp only [fB,hF,ew,if_neg nb,ij]
  simp
  omega
 | [a,b,c] =>
  obtain⟨h1,hb⟩:=qm h
  have hc:=hb c (by simp)
  have hb:=hb b (by simp)
  have nb:¬ (b<128∨191<b):=by omega
  have nc:¬ (c<128∨191<c):=by omega
  rcases cO a with⟨h2,hF,hL⟩|⟨h2,hF,hL⟩|⟨h2,h3,hF,hL⟩|⟨h2,h3,hF,hL⟩|⟨h2,h3,hF,hL⟩|⟨h2,h3,hF,hL⟩|⟨h2,h3,hF,hL⟩
  all_goals (rw [hL] at h1;simp at h1)
  simp only [fB,hF,ew,if_neg nb,if_neg nc,ij,eH]
  simp
  omega
 | [a,b,c,d] =>
  obtain⟨h1,hb⟩:=qm h
  have hc:=hb c (by simp)
  have hd:=hb d (by simp)
  have hb:=hb b (by simp)
  have nb:¬ (b<128∨191<b):=by omega
  have nc:¬ (c<128∨191<c):=by omega
  have nd:¬ (d<128∨191<d):=by omega
  rcases cO a with⟨h2,hF,hL⟩|⟨h2,hF,hL⟩|⟨h2,h3,hF,hL⟩|⟨h2,h3,hF,hL⟩|⟨h2,h3,hF,hL⟩|⟨h2,h3,hF,hL⟩|⟨h2,h3,hF,hL⟩
  all_goals (rw [hL] at h1;simp at h1)
  simp only [fB,hF,ew,if_neg nb,if_neg nc,if_neg nd,ij,eH]
  simp
  omega
 | a::b::c::d::e::r =>
  obtain⟨h1,_⟩:=qm h
  rcases cO a with⟨h2,hF,hL⟩|⟨h2,hF,hL⟩|⟨h2,h3,hF,hL⟩|⟨h2,h3,hF,hL⟩|⟨h2,h3,hF,hL⟩|⟨h2,h3,hF,hL⟩|⟨h2,h3,hF,hL⟩
  all_goals (rw [hL] at h1;simp at h1)
def fc(p:List Nat):Bool:=decide (p=[])||decide (dc p=1)
def gA(b:Nat):List Nat × List Nat:=if dc [b]=2 then ([],[ij [b]]) else if dc [b]=1 then ([b],[]) else ([],[65533])
def dP(p:List Nat)(b:Nat):List Nat × List Nat :=
 if dc (p++[b])=2 then ([],[ij (p++[b])]) else if dc (p++[b])=1 then (p++[b],[]) else if p=[] then ([],[65533]) else ((gA b).1,65533::(gA b).2)
def gB(p:List Nat):List Nat:=if p=[] then [] else [65533]
def lw:List Nat→List Nat→List Nat
 | p,[]=>gB p
 | p,b::s=>(dP p b).2++lw (dP p b).1 s
def DR(s:List Nat):List Nat:=lw [] s
theorem Ay:fc []=true:=rfl
theorem v6(b:Nat):fc (gA b).1=true:=by
 unfold gA
 split
 ·rfl
 ·split
  ·next h=>simp [fc,h]
  ·rfl
theorem qb(p:List Nat)(b:Nat):fc (dP p b).1=true:=by
 unfold dP
 split
 ·rfl
 ·split
  ·next h=>simp [fc,h]
  ·split
   ·rfl
   ·exact v6 b
theorem KZ{a:Nat}{r:List Nat}(h:dc (a::r)=1):r.length+1<jt a∧jt a≤4∧∀ x∈r,128≤x∧x≤191:=by
 have h4:jt a≤4:=by
  unfold jt
  repeat' split
  all_goals omega
 rw [dc] at h
 split at h
 ·cases h
 ·split at h
  ·next hc =>
   split at h
   ·next h2=>exact⟨h2,h4,xi hc (Dk a) (Dq a)⟩
   ·cases h
  ·cases h
theorem mN{p:List Nat}(h:fc p=true):p.length≤3:=by
 cases p with
 | nil=>simp
 | cons a r =>
  simp only [fc,eF,decide_eq_true_eq] at h
  rcases h with h|h
  ·cases h
  ·obtain⟨h1,h2,_⟩:=KZ h
   simp;omega
def sG(cp:Nat):Bool:=decide (cp≤1114111)&&!(decide (55296≤cp)&&decide (cp≤57343))
def kh(cp:Nat):List Nat :=
 if cp<128 then [cp] else if cp<2048 then [192+cp / 64,128+cp % 64] else if cp<65536 then [224+cp / 4096,128+cp / 64 % 64,128+cp % 64] else [240+cp / 262144,128+cp / 4096 % 64,128+cp / 64 % 64,128+cp % 64]
def sL(cp:Nat):List Nat:=kh (if sG cp then cp else 65533)
def G2(l:List Nat):List Nat:=l.flatMap sL
theorem tq(cp:Nat)(h:cp≤1114111):∀ x∈kh cp,x<256:=by
 unfold kh
 intro x hx
 repeat' split at hx
 all_goals (simp at hx;omega)
theorem AE(cp:Nat):∀ x∈sL cp,x<256:=by
 unfold sL
 split
 ·next h=>exact tq cp (by simp [sG] at h;omega)
 ·exact tq _ (by omega)
def By(x:Nat):AV:=.int .u8 x
def Co(x:Nat):AV:=.int .i64 x
@[go_sem] theorem By.plainL(l:List Nat):plainL (l.map By)=true:=fA (fun _=>rfl) l
@[go_sem] theorem By.ltL(l:List Nat)(n:Nat):ltL n (l.map By)=true:=db.2 fun x hx=>by obtain⟨y,_,rfl⟩:=aM.1 hx;rfl
@[go_sem] theorem By.ok(l:List Nat):cN 1 (l.map By)=true:=by
 unfold cN;rw [aC];intro x hx;obtain⟨y,_,rfl⟩:=aM.1 hx;rfl
@[go_sem] theorem Co.plainL(l:List Nat):plainL (l.map Co)=true:=fA (fun _=>rfl) l
@[go_sem] theorem Co.ltL(l:List Nat)(n:Nat):ltL n (l.map Co)=true:=db.2 fun x hx=>by obtain⟨y,_,rfl⟩:=aM.1 hx;rfl
@[go_sem] theorem Co.ok(l:List Nat):cN 1 (l.map Co)=true:=by
 unfold cN;rw [aC];intro x hx;obtain⟨y,_,rfl⟩:=aM.1 hx;rfl
def jj(b:UInt8):AV:=.int .u8 (b.toNat:Int)
theorem mD(l:List UInt8):gH (l.map jj)=some l:=by
 induction l with
 | nil=>rfl
 | cons x l ih=>simp [gH,jj,ih]
theorem wE(l:List UInt8):uO (l.map jj)=true:=by
 unfold uO
 rw [aC]
 intro x hx
 obtain⟨b,_,rfl⟩:=aM.1 hx
 have:=b.toNat_lt
 simp [jj];omega
@[go_sem] theorem MD(l:List UInt8):cN 1 (l.map jj)=true:=by
 unfold cN;rw [aC];intro x hx;obtain⟨y,_,rfl⟩:=aM.1 hx;rfl
@[go_sem] theorem J1(l:List UInt8):plainL (l.map jj)=true:=fA (fun _=>rfl) l
@[go_sem] theorem vz(l:List UInt8)(n:Nat):ltL n (l.map jj)=true:=db.2 fun x hx=>by obtain⟨y,_,rfl⟩:=aM.1 hx;rfl
def dU(n:Nat):UInt8:=if n<10 then ay (48+n) else ay (87+n)
def dW(b:UInt8):Option Nat :=
 if 48≤b.toNat∧b.toNat≤57 then some (b.toNat - 48)
 else if 97≤b.toNat∧b.toNat≤102 then some (b.toNat - 87)
 else if 65≤b.toNat∧b.toNat≤70 then some (b.toNat - 55) else none
def iu(a b:UInt8):Option Nat :=
 match dW a,dW b with
 | some x,some y=>some (x * 16+y)
 | _,_=>none
theorem oK{a:UInt8}{x:Nat}(h:dW a=some x):x<16:=by
 unfold dW at h
 split at h
 ·cases h;omega
 ·split at h
  ·cases h;omega
  ·split at h
   ·cases h;omega
   ·cases h
theorem qN{a b:UInt8}{v:Nat}(h:iu a b=some v):v<256:=by
 unfold iu at h
 split at h
 ·next x y hx hy =>
  cases h
  have:=oK hx
  have:=oK hy
  omega
 ·cases h
def fm:List Nat→List Nat
 | []=>[]
 | [a]=>[a / 4,a % 4 * 16]
 | [a,b]=>[a / 4,a % 4 * 16+b / 16,b % 16 * 4]
 | a::b::c::r=>a / 4::(a % 4 * 16+b / 16)::(b % 16 * 4+c / 64)::c % 64::fm r
structure m_ where
 out:List Nat
 wait:Nat
 rest:Nat
def eD(q:m_)(c:Nat):m_ :=
 if q.wait=0 then ⟨q.out++[(q.rest * 256+c) / 4],2,(q.rest * 256+c) % 4⟩
 else if q.wait=2 then ⟨q.out++[(q.rest * 256+c) / 16],4,(q.rest * 256+c) % 16⟩
 else ⟨q.out++[(q.rest * 256+c) / 64,(q.rest * 256+c) % 64],0,0⟩
def ls(q:m_):List Nat:=if q.wait=0 then q.out else if q.wait=2 then q.out++[q.rest * 16] else q.out++[q.rest * 4]
def JL(s:List Nat):m_:=s.foldl eD ⟨[],0,0⟩
theorem w9:∀ (s:List Nat) (o:List Nat),(∀ x∈s,x<256)→ls (s.foldl eD ⟨o,0,0⟩)=o++fm s
 | [],o,_=>by simp [ls,fm]
 | [a],o,h=>by
  have ha:=h a (by simp)
  simp [eD,ls,fm]
 | [a,b],o,h=>by
  have ha:=h a (by simp)
  have hb:=h b (by simp)
  simp [eD,ls,fm]
  omega
 | a::b::c::r,o,h=>by
  have ha:=h a (by simp)
  have hb:=h b (by simp)
  have hc:=h c (by simp)
  have ih:=w9 r (o++[a / 4,a % 4 * 16+b / 16,b % 16 * 4+c / 64,c % 64]) (fun x hx=>h x (by simp [hx]))
  have e:(a::b::c::r).foldl eD ⟨o,0,0⟩=r.foldl eD ⟨o++[a / 4,a % 4 * 16+b / 16,b % 16 * 4+c / 64,c % 64],0,0⟩:=by
   simp only [gI]
   congr 1
   simp [eD]
   omega
  rw [e,ih]
  simp [fm]
theorem DE(s:List Nat)(h:∀ x∈s,x<256):ls (JL s)=fm s:=by
 have:=w9 s [] h
 simpa [JL] using this
def kG(s:List Nat)(k:Nat):Nat:=match s[k / 8]? with|some b=>b / 2 ^ (7 - k % 8) % 2|none=>0
def jd(s:List Nat)(p:Nat):Nat:=2 * (2 * (2 * (2 * (2 * (2 * 0+kG s p)+kG s (p+1))+kG s (p+2))+kG s (p+3))+kG s (p+4))+kG s (p+5)
theorem Bj(a b c:Nat)(r:List Nat)(k:Nat):kG (a::b::c::r) (k+24)=kG r k:=by
 unfold kG
 rw [show (k+24) / 8=k / 8+3 by omega,show (k+24) % 8=k % 8 by omega]
 simp
theorem xU(a b c:Nat)(r:List Nat)(p:Nat):jd (a::b::c::r) (p+24)=jd r p:=by
 unfold jd
 rw [show p+24+1=p+1+24 by omega,show p+24+2=p+2+24 by omega,show p+24+3=p+3+24 by omega,show p+24+4=p+4+24 by omega,show p+24+5=p+5+24 by omega]
 simp only [Bj]
theorem mX{s:List Nat}{i b:Nat}(h:s[i]? = some b)(j:Nat)(hj:j<8):kG s (8 * i+j)=b / 2 ^ (7 - j) % 2:=by
 unfold kG
 rw [show (8 * i+j) / 8=i by omega,show (8 * i+j) % 8=j by omega,h]
theorem zR{s:List Nat}{i:Nat}(h:s[i]? = none)(j:Nat)(hj:j<8):kG s (8 * i+j)=0:=by
 unfold kG
 rw [show (8 * i+j) / 8=i by omega,h]
theorem zM:∀ (s:List Nat),(∀ x∈s,x<256)→∀ j,(fm s)[j]? = if 6 * j<8 * s.length then some (jd s (6 * j)) else none
 | [],_,j=>by simp [fm]
 | [a],h,j=>by
  have ha:=h a (by simp)
  have b0:=fun j hj=>mX (s:=[a]) (i:=0) (b:=a) rfl j hj
  have b1:=fun j hj=>zR (s:=[a]) (i:=1) rfl j hj
  match j with
  | 0 =>
   have:=b0 0 (by decide);have:=b0 1 (by decide);have:=b0 2 (by decide);have:=b0 3 (by decide);have:=b0 4 (by decide);have:=b0 5 (by decide)
   simp [fm,jd] at *
   omega
  | 1 =>
   have:=b0 6 (by decide);have:=b0 7 (by decide);have:=b1 0 (by decide);have:=b1 1 (by decide);have:=b1 2 (by decide);have:=b1 3 (by decide)
   simp [fm,jd] at *
   omega
  | j+2=>simp [fm];omega
 | [a,b],h,j=>by
  have ha:=h a (by simp)
  have hb:=h b (by simp)
  have b0:=fun j hj=>mX (s:=[a,b]) (i:=0) (b:=a) rfl j hj
  have b1:=fun j hj=>mX (s:=[a,b]) (i:=1) (b:=b) rfl j hj
  have b2:=fun j hj=>zR (s:=[a,b]) (i:=2) rfl j hj
  match j with
  | 0 =>
   have:=b0 0 (by decide);have:=b0 1 (by decide);have:=b0 2 (by decide);have:=b0 3 (by decide);have:=b0 4 (by decide);have:=b0 5 (by decide)
   simp [fm,jd] at *
   omega
  | 1 =>
   have:=b0 6 (by decide);have:=b0 7 (by decide);have:=b1 0 (by decide);have:=b1 1 (by decide);have:=b1 2 (by decide);have:=b1 3 (by decide)
   simp [fm,jd] at *
   omega
  | 2 =>
   have:=b1 4 (by decide);have:=b1 5 (by decide);have:=b1 6 (by decide);have:=b1 7 (by decide);have:=b2 0 (by decide);have:=b2 1 (by decide)
   simp [fm,jd] at *
   omega
  | j+3=>simp [fm];omega
 | a::b::c::r,h,j=>by
  have ha:=h a (by simp)
  have hb:=h b (by simp)
  have hc:=h c (by simp)
  have ih:=zM r (fun x hx=>h x (by simp [hx]))
  have b0:=fun j hj=>mX (s:=a::b::c::r) (i:=0) (b:=a) rfl j hj
  have b1:=fun j hj=>mX (s:=a::b::c::r) (i:=1) (b:=b) rfl j hj
  have b2:=fun j hj=>mX (s:=a::b::c::r) (i:=2) (b:=c) rfl j hj
  match j with
  | 0 =>
   have:=b0 0 (by decide);have:=b0 1 (by decide);have:=b0 2 (by decide);have:=b0 3 (by decide);have:=b0 4 (by decide);have:=b0 5 (by decide)
   simp [fm,jd] at *
   omega
  | 1 =>
   have:=b0 6 (by decide);have:=b0 7 (by decide);have:=b1 0 (by decide);have:=b1 1 (by decide);have:=b1 2 (by decide);have:=b1 3 (by decide)
   simp [fm,jd] at *
   omega
  | 2 =>
   have:=b1 4 (by decide);have:=b1 5 (by decide);have:=b1 6 (by decide);have:=b1 7 (by decide);have:=b2 0 (by decide);have:=b2 1 (by decide)
   simp [fm,jd] at *
   omega
  | 3 =>
   have:=b2 2 (by decide);have:=b2 3 (by decide);have:=b2 4 (by decide);have:=b2 5 (by decide);have:=b2 6 (by decide);have:=b2 7 (by decide)
   simp [fm,jd] at *
   omega
  | j+4 =>
   rw [show 6 * (j+4)=6 * j+24 by omega,xU]
   simp only [fm,List.getElem?_cons_succ,aB]
   rw [ih j]
   by_cases hh:6 * j<8 * r.length
   ·rw [if_pos hh,if_pos (by omega)]
   ·rw [if_neg hh,if_neg (by omega)]
def dT(q:m_)(v:Nat):m_ :=
 if q.wait=0 then ⟨q.out,6,q.rest * 64+v⟩
 else if q.wait=6 then ⟨q.out++[(q.rest * 64+v) / 16],4,(q.rest * 64+v) % 16⟩
 else if q.wait=4 then ⟨q.out++[(q.rest * 64+v) / 4],2,(q.rest * 64+v) % 4⟩
 else ⟨q.out++[q.rest * 64+v],0,0⟩
def dK:List Nat→m_
 | []=>⟨[],0,0⟩
 | [a]=>⟨[],6,a⟩
 | [a,b]=>⟨[a * 4+b / 16],4,b % 16⟩
 | [a,b,c]=>⟨[a * 4+b / 16,b % 16 * 16+c / 4],2,c % 4⟩
 | a::b::c::d::r=>⟨(a * 4+b / 16)::(b % 16 * 16+c / 4)::(c % 4 * 64+d)::(dK r).out,(dK r).wait,(dK r).rest⟩
theorem sc:∀ (s:List Nat) (o:List Nat),(∀ x∈s,x<64)→s.foldl dT ⟨o,0,0⟩=⟨o++(dK s).out,(dK s).wait,(dK s).rest⟩
 | [],o,_=>by simp [dK]
 | [a],o,h=>by simp [dT,dK]
 | [a,b],o,h=>by
  have hb:=h b (by simp)
  simp [dT,dK]
  omega
 | [a,b,c],o,h=>by
  have hb:=h b (by simp)
  have hc:=h c (by simp)
  simp [dT,dK]
  omega
 | a::b::c::d::r,o,h=>by
  have hb:=h b (by simp)
  have hc:=h c (by simp)
  have hd:=h d (by simp)
  have ih:=sc r (o++[a * 4+b / 16,b % 16 * 16+c / 4,c % 4 * 64+d]) (fun x hx=>h x (by simp [hx]))
  have e:(a::b::c::d::r).foldl dT ⟨o,0,0⟩=r.foldl dT ⟨o++[a * 4+b / 16,b % 16 * 16+c / 4,c % 4 * 64+d],0,0⟩:=by
   simp only [gI]
   congr 1
   simp [dT]
   omega
  rw [e,ih]
  simp [dK]
theorem zN:∀ (s:List Nat),(∀ x∈s,x<64)→(dK s).wait≠6→(dK s).rest=0→fm (dK s).out=s
 | [],_,_,_=>by simp [dK,fm]
 | [a],_,h1,_=>by simp [dK] at h1
 | [a,b],h,_,h2=>by
  have hb:=h b (by simp)
  simp [dK] at h2
  simp [dK,fm]
  omega
 | [a,b,c],h,_,h2=>by
  have hb:=h b (by simp)
  have hc:=h c (by simp)
  simp [dK] at h2
  simp [dK,fm]
  omega
 | a::b::c::d::r,h,h1,h2=>by
  have hb:=h b (by simp)
  have hc:=h c (by simp)
  have hd:=h d (by simp)
  have ih:=zN r (fun x hx=>h x (by simp [hx])) (by simpa [dK] using h1) (by simpa [dK] using h2)
  simp only [dK,fm,ih]
  simp
  omega
theorem vl:∀ (t:List Nat),(∀ x∈t,x<256)→(dK (fm t)).out=t∧(dK (fm t)).wait≠6∧(dK (fm t)).rest=0
 | [],_=>by simp [dK,fm]
 | [a],h=>by
  have ha:=h a (by simp)
  simp [dK,fm]
  omega
 | [a,b],h=>by
  have ha:=h a (by simp)
  have hb:=h b (by simp)
  simp [dK,fm]
  omega
 | a::b::c::r,h=>by
  have ha:=h a (by simp)
  have hb:=h b (by simp)
  have hc:=h c (by simp)
  obtain⟨h1,h2,h3⟩:=vl r (fun x hx=>h x (by simp [hx]))
  simp only [dK,fm,h1,h3]
  refine⟨?_,h2,trivial⟩
  simp
  omega
theorem pP:∀ (t:List Nat),(∀ x∈t,x<256)→∀ v∈fm t,v<64
 | [],_=>by simp [fm]
 | [a],h=>by
  have ha:=h a (by simp)
  simp [fm]
  omega
 | [a,b],h=>by
  have ha:=h a (by simp)
  have hb:=h b (by simp)
  simp [fm]
  omega
 | a::b::c::r,h=>by
  have ha:=h a (by simp)
  have hb:=h b (by simp)
  have hc:=h c (by simp)
  have ih:=pP r (fun x hx=>h x (by simp [hx]))
  intro v hv
  simp only [fm,bz] at hv
  rcases hv with rfl|rfl|rfl|rfl|hv
  ·omega
  ·omega
  ·omega
  ·omega
  ·exact ih v hv
theorem DG:∀ (s:List Nat),(∀ x∈s,x<64)→∀ v∈(dK s).out,v<256
 | [],_=>by simp [dK]
 | [a],_=>by simp [dK]
 | [a,b],h=>by
  have ha:=h a (by simp)
  have hb:=h b (by simp)
  simp [dK]
  omega
 | [a,b,c],h=>by
  have ha:=h a (by simp)
  have hb:=h b (by simp)
  have hc:=h c (by simp)
  simp [dK]
  omega
 | a::b::c::d::r,h=>by
  have ha:=h a (by simp)
  have hb:=h b (by simp)
  have hc:=h c (by simp)
  have hd:=h d (by simp)
  have ih:=DG r (fun x hx=>h x (by simp [hx]))
  intro v hv
  simp only [dK,bz] at hv
  rcases hv with rfl|rfl|rfl|hv
  ·omega
  ·omega
  ·omega
  ·exact ih v hv
theorem mU:∀ (t:List Nat),(fm t).length=(8 * t.length+5) / 6
 | []=>by simp [fm]
 | [a]=>by simp [fm]
 | [a,b]=>by simp [fm]
 | a::b::c::r=>by
  have ih:=mU r
  simp only [fm,aB,ih]
  omega
def jq:List UInt8:=[65,66,67,68,69,70,71,72,73,74,75,76,77,78,79,80,81,82,83,84,85,86,87,88,89,90,97,98,99,100,101,102,103,104,105,106,107,108,109,110,111,112,113,114,115,116,117,118,119,120,121,122,48,49,50,51,52,53,54,55,56,57,43,47]
def bm(v:Nat):UInt8:=jq.getD v 0
def iC(c:UInt8):Option Nat:=jq.findIdx? (fun x=>x==c)
theorem vT:∀ v,v<64→iC (bm v)=some v:=by decide +kernel
theorem Ar:∀ v,v<64→bm v≠61:=by decide +kernel
theorem BV:iC 61=none:=by decide +kernel
theorem qZ{c:UInt8}{v:Nat}(h:iC c=some v):v<64∧bm v=c:=by
 unfold iC at h
 rw [List.findIdx?_eq_some_iff_getElem] at h
 obtain⟨h1,h2,_⟩:=h
 refine⟨h1, ?_⟩
 unfold bm
 rw [List.getD_eq_getElem?_getD,al h1]
 simpa using h2
def gN:List UInt8→Option (List Nat)
 | []=>some []
 | c::r=>match iC c with
  | some v=>(gN r).map (v::·)
  | none=>none
def iy:List UInt8→List Nat
 | []=>[]
 | c::r=>match iC c with
  | some v=>v::iy r
  | none=>[]
def hZ(s:List UInt8):List UInt8:=(s.reverse.dropWhile (fun b=>b==61)).reverse
def gh(s:List UInt8):List UInt8:=(fm (s.map aJ)).map bm
def gD(n:Nat):Nat:=(4 - n % 4) % 4
def hU(s:List UInt8):List UInt8:=gh s++a7 (gD (gh s).length) 61
def pR(s:List UInt8):Option (List UInt8) :=
 if (hZ s).length≠s.length∧(s.length % 4≠0∨2<s.length - (hZ s).length) then none else
  match gN (hZ s) with
  | none=>none
  | some V=>if (dK V).wait=6∨(dK V).rest≠0 then none else some ((dK V).out.map ay)
def sU(s:List UInt8):List UInt8:=(dK (iy s)).out.map ay
def yB(s:List UInt8):Option (List UInt8):=if s≠gh (sU s)∧s≠hU (sU s) then none else some (sU s)
theorem vQ:∀ (V:List Nat),(∀ v∈V,v<64)→gN (V.map bm)=some V
 | [],_=>rfl
 | v::V,h=>by
  rw [ap,gN,vT v (h v (by simp)),vQ V (fun x hx=>h x (by simp [hx]))]
  rfl
theorem pp:∀ {s:List UInt8}{V:List Nat},gN s=some V→s=V.map bm∧∀ v∈V,v<64
 | [],V,h=>by cases h;simp
 | c::r,V,h=>by
  rw [gN] at h
  cases hc:iC c with
  | none=>rw [hc] at h;cases h
  | some v =>
   rw [hc] at h
   simp only at h
   cases hr:gN r with
   | none=>rw [hr] at h;cases h
   | some W =>
    rw [hr] at h
    cases h
    obtain⟨h1,h2⟩:=pp hr
    obtain⟨h3,h4⟩:=qZ hc
    refine⟨by rw [ap,h4,← h1], ?_⟩
    intro x hx
    rcases bz.1 hx with rfl|hx
    ·exact h3
    ·exact h2 x hx
theorem l7:∀ (V:List Nat) (k:Nat),(∀ v∈V,v<64)→iy (V.map bm++a7 k 61)=V
 | [],k,_=>by
  cases k with
  | zero=>rfl
  | succ k=>simp [lL,iy,BV]
 | v::V,k,h=>by
  rw [ap,ft,iy,vT v (h v (by simp))]
  simp only
  rw [l7 V k (fun x hx=>h x (by simp [hx]))]
theorem DF(l:List UInt8)(k:Nat):(a7 k (61:UInt8)++l).dropWhile (fun b=>b==61)=l.dropWhile (fun b=>b==61):=by
 induction k with
 | zero=>rfl
 | succ k ih=>rw [lL,ft,ue (by rfl),ih]
theorem B6(V:List Nat)(k:Nat)(h:∀ v∈V,v<64):hZ (V.map bm++a7 k 61)=V.map bm:=by
 unfold hZ
 rw [Bz,xI,DF]
 cases hV:(V.map bm).reverse with
 | nil=>have:=congrArg List.reverse hV;simp at this;simp [this]
 | cons c r =>
  have hc:c∈V.map bm:=by rw [← List.mem_reverse,hV];simp
  obtain⟨v,hv,rfl⟩:=aM.1 hc
  have hn:=Ar v (h v hv)
  rw [uf (by simpa using hn),← hV,zY]
theorem rW:∀ (l:List UInt8),∃ k,l=a7 k 61++l.dropWhile (fun b=>b==61)
 | []=>⟨0,rfl⟩
 | c::r=>by
  by_cases hc:c=61
  ·subst hc
   obtain⟨k,hk⟩:=rW r
   refine⟨k+1, ?_⟩
   rw [ue (by rfl),lL,ft,← hk]
  ·refine⟨0, ?_⟩
   rw [uf (by simpa using hc)]
   rfl
theorem q_(s:List UInt8):∃ k,s=hZ s++a7 k 61:=by
 obtain⟨k,hk⟩:=rW s.reverse
 refine⟨k, ?_⟩
 have:=congrArg List.reverse hk
 rw [zY,Bz,xI] at this
 exact this
theorem sa:∀ V:List Nat,(dK V).wait=6↔V.length % 4=1
 | []=>by simp [dK]
 | [a]=>by simp [dK]
 | [a,b]=>by simp [dK]
 | [a,b,c]=>by simp [dK]
 | a::b::c::d::r=>by
  have ih:=sa r
  simp only [dK,aB,ih]
  omega
theorem kl:∀ (l:List Nat),(∀ v∈l,v<256)→(l.map ay).map aJ=l
 | [],_=>rfl
 | a::l,h=>by
  have ha:=h a (by simp)
  rw [ap,ap,kl l (fun x hx=>h x (by simp [hx]))]
  congr 1
  simp [UInt8.toNat_ofNat']
  omega
theorem toNat_lt(t:List UInt8):∀ v∈t.map aJ,v<256:=by
 intro v hv
 obtain⟨c,_,rfl⟩:=aM.1 hv
 exact c.toNat_lt
theorem xc(s:List UInt8):pR s=yB s:=by
 by_cases hs:∃ (V:List Nat) (k:Nat),(∀ v∈V,v<64)∧s=V.map bm++a7 k 61
 ·obtain⟨V,k,hV,rfl⟩:=hs
  unfold pR yB sU
  rw [l7 V k hV,B6 V k hV,vQ V hV]
  have ho:=DG V hV
  have hw:=sa V
  by_cases hq:(dK V).wait=6∨(dK V).rest≠0
  ·simp only
   rw [if_pos hq]
   have hno:¬ ((V.map bm++a7 k 61=gh ((dK V).out.map ay))∨(V.map bm++a7 k 61=hU ((dK V).out.map ay))):=by
    intro he
    have he':∃ j,V.map bm++a7 k 61=gh ((dK V).out.map ay)++a7 j 61:=by
     rcases he with he|he
     ·exact⟨0,by simpa using he⟩
     ·exact⟨_,he⟩
    obtain⟨j,he⟩:=he'
    have ht:=congrArg iy he
    unfold gh at ht
    rw [l7 V k hV,kl _ ho,l7 _ j (pP _ ho)] at ht
    obtain⟨_,h2,h3⟩:=vl _ ho
    rw [← ht] at h2 h3
    rcases hq with hq|hq
    ·exact h2 hq
    ·exact hq h3
   split
   ·rw [if_pos ⟨fun e=>hno (.inl e),fun e=>hno (.inr e)⟩]
   ·rw [if_pos ⟨fun e=>hno (.inl e),fun e=>hno (.inr e)⟩]
  ·have h1:(dK V).wait≠6:=fun e=>hq (.inl e)
   have h2:(dK V).rest=0:=Decidable.byContradiction fun e=>hq (.inr e)
   have hb:gh ((dK V).out.map ay)=V.map bm:=by
    unfold gh
    rw [kl _ ho,zN V hV h1 h2]
   simp only
   rw [if_neg hq]
   unfold hU
   rw [hb]
   simp only [ai,be,List.length_replicate]
   have hl:V.length % 4≠1:=fun e=>h1 (hw.2 e)
   have hk0:(V.map bm++a7 k 61=V.map bm)↔k=0:=by
    constructor
    ·intro e
     have:=congrArg iz e
     simp at this
     exact this
    ·rintro rfl;simp
   have hkp:(V.map bm++a7 k 61=V.map bm++a7 (gD V.length) 61)↔k=gD V.length:=by
    constructor
    ·intro e
     have:=congrArg iz e
     simp at this
     exact this
    ·rintro rfl;rfl
   by_cases hg:k=0∨k=gD V.length
   ·rw [if_neg (by unfold gD at hg;omega),if_neg (by rw [ne_eq,ne_eq,hk0,hkp];omega)]
   ·rw [if_pos (by unfold gD at hg;omega),if_pos (by rw [ne_eq,ne_eq,hk0,hkp];omega)]
 ·have e1:pR s=none:=by
   unfold pR
   split
   ·rfl
   ·cases hv:gN (hZ s) with
    | none=>rfl
    | some V =>
     exfalso
     obtain⟨k,hk⟩:=q_ s
     obtain⟨h1,h2⟩:=pp hv
     exact hs ⟨V,k,h2,by rw [← h1];exact hk⟩
  have e2:yB s=none:=by
   unfold yB
   rw [if_pos]
   constructor
   ·intro e
    exact hs ⟨_,0,pP _ (toNat_lt (sU s)),by rw [Ep,aG];exact e⟩
   ·intro e
    exact hs ⟨_,_,pP _ (toNat_lt (sU s)),e⟩
  rw [e1,e2]
theorem EA(b:Nat)(R:Rt)(h:R (.ret (.int .i64 (jt b:Nat))) S):aj prog w0 257 [.int .u8 b] S R:=by
 refine eN func257 rfl ntmps257 fun hO=>?_
 repeat' first|refine st ?_|(refine br ?_ ?_<;>intro hb)|fail
 all_goals refine fR results257 ?_
 all_goals
  refine cast (congrArg (fun v=>R (.ret (.int .i64 v)) S) ?_) h
  simp only [decide_eq_true_eq,decide_eq_false_iff_not] at *
  unfold jt
  repeat' split
  all_goals first|omega|rfl|decide
theorem qI(b:Nat)(R:Rt)(h:R (.ret (.tup [.int .u8 (yh b:Nat),.int .u8 (yo b:Nat)])) S):aj prog w0 258 [.int .u8 b] S R:=by
 refine eN func258 rfl ntmps258 fun hO=>?_
 repeat' first|refine st ?_|(refine br ?_ ?_<;>intro hb)|fail
 all_goals refine fR results258 ?_
 all_goals
  simp only [beq_iff_eq,beq_eq_false_iff_ne,ne_eq,decide_eq_true_eq,decide_eq_false_iff_not] at *
  have e1:(b=224)=((b:Int)=224):=by simp;omega
  have e2:(b=237)=((b:Int)=237):=by simp;omega
  have e3:(b=240)=((b:Int)=240):=by simp;omega
  have e4:(b=244)=((b:Int)=244):=by simp;omega
  unfold yh yo at h
  simpa [e1,e2,e3,e4, *] using h
theorem B3(cp:Nat)(R:Rt)(h:R (.ret (.bool (sG cp))) S):aj prog w0 45 [.int .i64 cp] S R:=by
 refine eN func45 rfl ntmps45 fun hO=>?_
 repeat' first|refine st ?_|(refine br ?_ ?_<;>intro hb)|fail
 all_goals refine fR results45 ?_
 all_goals
  have e:(cp:Int).fdiv (2 ^ min 11 64)=((cp / 2048:Nat):Int):=by
   rw [show (2:Int) ^ min 11 64=2048 by decide,Int.fdiv_eq_ediv_of_nonneg _ (by omega)]
   omega
  refine cast (congrArg (fun v=>R (.ret (.bool v)) S) ?_) h
  simp only [decide_eq_true_eq,decide_eq_false_iff_not] at hb
  unfold sG
  first
  | (rw [eB,e];simp only [ao,decide_eq_true_eq,aw,gp,decide_eq_false_iff_not,bne_iff_ne,ne_eq];omega)
  | (rw [gp];left;simp only [decide_eq_false_iff_not];omega)
theorem G1(p:List Nat)(h1:p≠[])(h4:p.length≤4)(R:Rt)(h:R (.ret (.int .i64 (dc p:Nat))) S):aj prog w0 212 [.sval false (p.map By)] S R:=by
 match p,h1,h4 with
 | [a],_,_ =>
  have hl:=fun S'=>EA w0 S' a
  have hs:=fun S'=>qI w0 S' a
  obtain⟨n,hn⟩:∃ n,jt a=n:=⟨_,rfl⟩
  obtain⟨lo,hlo⟩:∃ n,yh a=n:=⟨_,rfl⟩
  obtain⟨hi,hhi⟩:∃ n,yo a=n:=⟨_,rfl⟩
  have hk:dc [a]=if n<([]:List Nat).length+1 then 0 else if fC lo hi ([]:List Nat) then (if ([]:List Nat).length+1<n then 1 else 2) else 0:=by rw [dc,hn,hlo,hhi]
  rw [hn] at hl
  rw [hlo,hhi] at hs
  simp only [ap,aq,By]
  clear h1 h4 hn hlo hhi
  have HK:=ab hk
  clear hk
  refine eN func212 rfl ntmps212 fun hO=>?_
  repeat' first|refine st ?_|(refine ca ?_;first|apply hl|apply hs)|(refine br ?_ ?_<;>intro hb)|apply cT|apply fZ|fail
  all_goals refine fR results212 ?_
  all_goals
   refine cast (congrArg (fun v=>R (.ret (.int .i64 v)) S) ?_) h
   rw [HK.out]
   simp only [fC,aB,aL,ao,decide_eq_true_eq,decide_eq_false_iff_not,k_,and_true] at *
   repeat' split
   all_goals first|omega|rfl|(exact absurd trivial (by assumption))
 | [a,b],_,_ =>
  have hl:=fun S'=>EA w0 S' a
  have hs:=fun S'=>qI w0 S' a
  obtain⟨n,hn⟩:∃ n,jt a=n:=⟨_,rfl⟩
  obtain⟨lo,hlo⟩:∃ n,yh a=n:=⟨_,rfl⟩
  obtain⟨hi,hhi⟩:∃ n,yo a=n:=⟨_,rfl⟩
  have hk:dc [a,b]=if n<([b]:List Nat).length+1 then 0 else if fC lo hi ([b]:List Nat) then (if ([b]:List Nat).length+1<n then 1 else 2) else 0:=by rw [dc,hn,hlo,hhi]
  rw [hn] at hl
  rw [hlo,hhi] at hs
  simp only [ap,aq,By]
  clear h1 h4 hn hlo hhi
  have HK:=ab hk
  clear hk
  refine eN func212 rfl ntmps212 fun hO=>?_
  repeat' first|refine st ?_|(refine ca ?_;first|apply hl|apply hs)|(refine br ?_ ?_<;>intro hb)|apply cT|apply fZ|fail
  all_goals refine fR results212 ?_
  all_goals
   refine cast (congrArg (fun v=>R (.ret (.int .i64 v)) S) ?_) h
   rw [HK.out]
   simp only [fC,aB,aL,ao,decide_eq_true_eq,decide_eq_false_iff_not,k_,and_true] at *
   repeat' split
   all_goals first|omega|rfl|(exact absurd trivial (by assumption))
 | [a,b,c],_,_ =>
  have hl:=fun S'=>EA w0 S' a
  have hs:=fun S'=>qI w0 S' a
  obtain⟨n,hn⟩:∃ n,jt a=n:=⟨_,rfl⟩
  obtain⟨lo,hlo⟩:∃ n,yh a=n:=⟨_,rfl⟩
  obtain⟨hi,hhi⟩:∃ n,yo a=n:=⟨_,rfl⟩
  have hk:dc [a,b,c]=if n<([b,c]:List Nat).length+1 then 0 else if fC lo hi ([b,c]:List Nat) then (if ([b,c]:List Nat).length+1<n then 1 else 2) else 0:=by rw [dc,hn,hlo,hhi]
  rw [hn] at hl
  rw [hlo,hhi] at hs
  simp only [ap,aq,By]
  clear h1 h4 hn hlo hhi
  have HK:=ab hk
  clear hk
  refine eN func212 rfl ntmps212 fun hO=>?_
  repeat' first|refine st ?_|(refine ca ?_;first|apply hl|apply hs)|(refine br ?_ ?_<;>intro hb)|apply cT|apply fZ|fail
  all_goals refine fR results212 ?_
  all_goals
   refine cast (congrArg (fun v=>R (.ret (.int .i64 v)) S) ?_) h
   rw [HK.out]
   simp only [fC,aB,aL,ao,decide_eq_true_eq,decide_eq_false_iff_not,k_,and_true] at *
   repeat' split
   all_goals first|omega|rfl|(exact absurd trivial (by assumption))
 | [a,b,c,d],_,_ =>
  have hl:=fun S'=>EA w0 S' a
  have hs:=fun S'=>qI w0 S' a
  obtain⟨n,hn⟩:∃ n,jt a=n:=⟨_,rfl⟩
  obtain⟨lo,hlo⟩:∃ n,yh a=n:=⟨_,rfl⟩
  obtain⟨hi,hhi⟩:∃ n,yo a=n:=⟨_,rfl⟩
  have hk:dc [a,b,c,d]=if n<([b,c,d]:List Nat).length+1 then 0 else if fC lo hi ([b,c,d]:List Nat) then (if ([b,c,d]:List Nat).length+1<n then 1 else 2) else 0:=by rw [dc,hn,hlo,hhi]
  rw [hn] at hl
  rw [hlo,hhi] at hs
  simp only [ap,aq,By]
  clear h1 h4 hn hlo hhi
  have HK:=ab hk
  clear hk
  refine eN func212 rfl ntmps212 fun hO=>?_
  repeat' first|refine st ?_|(refine ca ?_;first|apply hl|apply hs)|(refine br ?_ ?_<;>intro hb)|apply cT|apply fZ|fail
  all_goals refine fR results212 ?_
  all_goals
   refine cast (congrArg (fun v=>R (.ret (.int .i64 v)) S) ?_) h
   rw [HK.out]
   simp only [fC,aB,aL,ao,decide_eq_true_eq,decide_eq_false_iff_not,k_,and_true] at *
   repeat' split
   all_goals first|omega|rfl|(exact absurd trivial (by assumption))
theorem xP(p:List Nat)(h4:p.length≤4)(R:Rt)(h:R (.ret (.bool (fc p))) S):aj prog w0 164 [.sval false (p.map By)] S R:=by
 by_cases hp:p=[]
 ·subst hp
  rw [Ay] at h
  simp only [aq]
  have e0:(((0:Nat):Int)==0)=true:=rfl
  clear h4
  refine eN func164 rfl ntmps164 fun hO=>?_
  repeat' first|refine st ?_|(refine br ?_ ?_<;>intro hb)|fail
  refine fR results164 ?_
  exact h
 ·have hk:=fun S'=>G1 w0 S' p hp h4
  have hl:((p.length:Int)==0)=false:=by
   rw [beq_eq_false_iff_ne]
   intro e
   exact hp (j_.1 (by omega))
  have hr:fc p=((dc p:Int)==1):=by
   unfold fc
   rw [decide_eq_false hp,vH,eB,decide_eq_true_eq,beq_iff_eq]
   omega
  rw [hr] at h
  clear hr hp h4
  refine eN func164 rfl ntmps164 fun hO=>?_
  repeat' first|refine st ?_|(refine ca ?_;apply hk)|(refine br ?_ ?_<;>intro hb)|fail
  refine fR results164 ?_
  exact h
theorem Au{c x:Nat}(hc:c<32768)(hx:x<64):ae.wrap (((ar ae.bits (ae.wrap ((c:Int) * 2 ^ min 6 64)) ||| ar ae.bits (x:Int)).toNat:Nat):Int)=((c * 64+x:Nat):Int):=by
 have e1:ae.wrap ((c:Int) * 2 ^ min 6 64)=((c * 64:Nat):Int):=by
  rw [show (2:Int) ^ min 6 64=64 by decide,ah _ (by omega)]
  omega
 rw [e1,GV]
 have e2:(ar ae.bits ((c * 64:Nat):Int)).toNat=c * 64:=by
  show (ar 64 _).toNat=_
  rw [cA];omega
 have e3:(ar ae.bits (x:Int)).toNat=x:=by
  show (ar 64 _).toNat=_
  rw [cA];omega
 rw [e2,e3]
 have e4:c * 64 ||| x=c * 64+x:=by
  have:=Nat.shiftLeft_add_eq_or_of_lt (b:=x) (i:=6) (by omega) c
  rw [Nat.shiftLeft_eq] at this
  exact this.symm
 rw [e4]
 exact ah _ (by omega)
theorem t7{b:Nat}(hb:b<256):ae.wrap (aX.wrap (((ar aX.bits (b:Int) &&& ar aX.bits 63).toNat:Nat):Int))=((b % 64:Nat):Int):=by
 rw [Ew]
 have e1:(ar aX.bits (b:Int)).toNat=b:=by
  show (ar 8 _).toNat=_
  rw [cA];omega
 have e2:(ar aX.bits 63).toNat=63:=by decide
 rw [e1,e2,show b &&& 63=b % 64 from yT b 6,di _ (by omega)]
 exact ah _ (by omega)
theorem J5{b k:Nat}(hb:b<256)(hk:k≤8):ae.wrap (((ar ae.bits (b:Int) &&& ar ae.bits ((2 ^ k - 1:Nat):Int)).toNat:Nat):Int)=((b % 2 ^ k:Nat):Int):=by
 rw [Ew]
 have h2:2 ^ k≤2 ^ 8:=gw (by omega) hk
 have h0:0<2 ^ k:=Nat.two_pow_pos k
 have e1:(ar ae.bits (b:Int)).toNat=b:=by
  show (ar 64 _).toNat=_
  rw [cA];omega
 have e2:(ar ae.bits ((2 ^ k - 1:Nat):Int)).toNat=2 ^ k - 1:=by
  show (ar 64 _).toNat=_
  rw [cA];omega
 rw [e1,e2,yT b k]
 have:=dY b h0
 exact ah _ (by omega)
theorem Ki(p:List Nat)(hk:dc p=2)(hb:∀ x∈p,x<256)(R:Rt)(h:R (.ret (.int .i64 (ij p:Nat))) S):aj prog w0 259 [.sval false (p.map By)] S R:=by
 match p with
 | []=>cases hk
 | [a] =>
  have h:R (.ret (.int .i64 a)) S:=h
  simp only [ap,aq,By]
  have ha:=hb a (by simp)
  have hw:ae.wrap (a:Int)=a:=ah _ (by omega)
  clear hb hk
  refine eN func259 rfl ntmps259 fun hO=>?_
  repeat' first|refine st ?_|(refine br ?_ ?_<;>intro hb)|apply cT|apply fZ|fail
  all_goals refine fR results259 ?_
  exact h
 | [a,b] =>
  simp only [ap,aq,By]
  have ha:=hb a (by simp)
  have hw:ae.wrap (a:Int)=a:=ah _ (by omega)
  have gf:(255:Int).fdiv (2 ^ min (ae.wrap (((2:Nat):Int)+1)).toNat 64)=((2 ^ 5 - 1:Nat):Int):=by decide
  have ga:=J5 (b:=a) (k:=5) ha (by omega)
  obtain⟨c0,hc0⟩:∃ c0,a % 2 ^ 5=c0:=⟨_,rfl⟩
  have hc0l:c0<32:=by rw [← hc0];exact dY _ (by decide)
  rw [hc0] at ga
  have gb:=t7 (hb b (by simp))
  have mb:b % 64<64:=dY _ (by omega)
  have q1:=Au (c:=c0) (x:=b % 64) (by omega) mb
  obtain⟨c1,hc1⟩:∃ cc,c0 * 64+b % 64=cc:=⟨_,rfl⟩
  have hc1l:c1<2048:=by omega
  rw [hc1] at q1
  have hcode:ij [a,b]=c1:=by
   have e:ij [a,b]=a % 2 ^ (7 - (1+1)) * 64+b % 64:=rfl
   rw [e]
   have e2:a % 2 ^ 5=a % (2 ^ (7 - (1+1))):=rfl
   omega
  rw [hcode] at h
  clear hb hk hcode ha
  simp only [bh] at ga gb q1
  refine eN func259 rfl ntmps259 fun hO=>?_
  repeat' first|refine st ?_|(refine br ?_ ?_<;>intro hb)|apply cT|apply fZ|fail
  all_goals refine fR results259 ?_
  exact h
 | [a,b,c] =>
  simp only [ap,aq,By]
  have ha:=hb a (by simp)
  have hw:ae.wrap (a:Int)=a:=ah _ (by omega)
  have gf:(255:Int).fdiv (2 ^ min (ae.wrap (((3:Nat):Int)+1)).toNat 64)=((2 ^ 4 - 1:Nat):Int):=by decide
  have ga:=J5 (b:=a) (k:=4) ha (by omega)
  obtain⟨c0,hc0⟩:∃ c0,a % 2 ^ 4=c0:=⟨_,rfl⟩
  have hc0l:c0<16:=by rw [← hc0];exact dY _ (by decide)
  rw [hc0] at ga
  have gb:=t7 (hb b (by simp))
  have mb:b % 64<64:=dY _ (by omega)
  have q1:=Au (c:=c0) (x:=b % 64) (by omega) mb
  obtain⟨c1,hc1⟩:∃ cc,c0 * 64+b % 64=cc:=⟨_,rfl⟩
  have hc1l:c1<1024:=by omega
  rw [hc1] at q1
  have gc:=t7 (hb c (by simp))
  have mc:c % 64<64:=dY _ (by omega)
  have q2:=Au (c:=c1) (x:=c % 64) (by omega) mc
  obtain⟨c2,hc2⟩:∃ cc,c1 * 64+c % 64=cc:=⟨_,rfl⟩
  have hc2l:c2<65536:=by omega
  rw [hc2] at q2
  have hcode:ij [a,b,c]=c2:=by
   have e:ij [a,b,c]=(a % 2 ^ (7 - (2+1)) * 64+b % 64) * 64+c % 64:=rfl
   rw [e]
   have e2:a % 2 ^ 4=a % (2 ^ (7 - (2+1))):=rfl
   omega
  rw [hcode] at h
  clear hb hk hcode ha
  simp only [bh] at ga gb q1 gc q2
  refine eN func259 rfl ntmps259 fun hO=>?_
  repeat' first|refine st ?_|(refine br ?_ ?_<;>intro hb)|apply cT|apply fZ|fail
  all_goals refine fR results259 ?_
  exact h
 | [a,b,c,d] =>
  simp only [ap,aq,By]
  have ha:=hb a (by simp)
  have hw:ae.wrap (a:Int)=a:=ah _ (by omega)
  have gf:(255:Int).fdiv (2 ^ min (ae.wrap (((4:Nat):Int)+1)).toNat 64)=((2 ^ 3 - 1:Nat):Int):=by decide
  have ga:=J5 (b:=a) (k:=3) ha (by omega)
  obtain⟨c0,hc0⟩:∃ c0,a % 2 ^ 3=c0:=⟨_,rfl⟩
  have hc0l:c0<8:=by rw [← hc0];exact dY _ (by decide)
  rw [hc0] at ga
  have gb:=t7 (hb b (by simp))
  have mb:b % 64<64:=dY _ (by omega)
  have q1:=Au (c:=c0) (x:=b % 64) (by omega) mb
  obtain⟨c1,hc1⟩:∃ cc,c0 * 64+b % 64=cc:=⟨_,rfl⟩
  have hc1l:c1<512:=by omega
  rw [hc1] at q1
  have gc:=t7 (hb c (by simp))
  have mc:c % 64<64:=dY _ (by omega)
  have q2:=Au (c:=c1) (x:=c % 64) (by omega) mc
  obtain⟨c2,hc2⟩:∃ cc,c1 * 64+c % 64=cc:=⟨_,rfl⟩
  have hc2l:c2<32768:=by omega
  rw [hc2] at q2
  have gd:=t7 (hb d (by simp))
  have md:d % 64<64:=dY _ (by omega)
  have q3:=Au (c:=c2) (x:=d % 64) (by omega) md
  obtain⟨c3,hc3⟩:∃ cc,c2 * 64+d % 64=cc:=⟨_,rfl⟩
  have hc3l:c3<2097152:=by omega
  rw [hc3] at q3
  have hcode:ij [a,b,c,d]=c3:=by
   have e:ij [a,b,c,d]=((a % 2 ^ (7 - (3+1)) * 64+b % 64) * 64+c % 64) * 64+d % 64:=rfl
   rw [e]
   have e2:a % 2 ^ 3=a % (2 ^ (7 - (3+1))):=rfl
   omega
  rw [hcode] at h
  clear hb hk hcode ha
  simp only [bh] at ga gb q1 gc q2 gd q3
  refine eN func259 rfl ntmps259 fun hO=>?_
  repeat' first|refine st ?_|(refine br ?_ ?_<;>intro hb)|apply cT|apply fZ|fail
  all_goals refine fR results259 ?_
  exact h
 | a::b::c::d::e::r =>
  obtain⟨h1,_⟩:=qm hk
  have:jt a≤4:=by
   unfold jt
   repeat' split
   all_goals omega
  simp at h1
  omega
@[go_sem] theorem By.all1(l:List Nat):((l.map By).all fun el=>el.cells.length==1)=true:=by
 rw [aC];intro x hx;obtain⟨y,_,rfl⟩:=aM.1 hx;rfl
theorem Ii(p:List Nat)(hr:fc p=true)(R:Rt)(h:R (.ret (.sval false ((gB p).map Co))) S):aj prog w0 269 [.sval false (p.map By)] S R:=by
 have hri:=fun S'=>xP w0 S' p (s_ (mN hr))
 rw [hr] at hri
 by_cases hp:p=[]
 ·subst hp
  have h:R (.ret (.sval false [])) S:=h
  have e0:decide ((0:Int)<((0:Nat):Int))=false:=rfl
  simp only [aq]
  clear hr hri
  refine eN func269 rfl ntmps269 fun hO=>?_
  repeat' first|refine st ?_|(refine br ?_ ?_<;>intro hb)|fail
  refine fR results269 ?_
  exact h
 ·have hl:decide ((0:Int)<(p.length:Int))=true:=by
   cases p with
   | nil=>exact absurd rfl hp
   | cons a r=>simp only [aB,decide_eq_true_eq];omega
  rw [gB,if_neg hp] at h
  have h:R (.ret (.sval false [AV.int .i64 65533])) S:=h
  clear hr hp
  refine eN func269 rfl ntmps269 fun hO=>?_
  repeat' first|refine st ?_|(refine ca ?_;apply hri)|(refine br ?_ ?_<;>intro hb)|fail
  refine fR results269 ?_
  exact h
def h_(q:List Nat × List Nat):AV:=.tup [.sval false (q.1.map By),.sval false (q.2.map Co)]
theorem B2(p:List Nat)(b:Nat)(hb:b<256)(hr:fc p=true)(hp:∀ x∈p,x<256)
  (hrec:p≠[]→∀ (S':List aH) (R:Rt),R (.ret (h_ (gA b))) S'→aj prog w0 213 [.sval false [],.int .u8 b] S' R)
  (R:Rt) (h:R (.ret (h_ (dP p b))) S):aj prog w0 213 [.sval false (p.map By),.int .u8 b] S R:=by
 have hl3:=mN hr
 have hri:=fun S'=>xP w0 S' p (s_ hl3)
 rw [hr] at hri
 have hk:=fun S'=>G1 w0 S' (p++[b]) (by simp) (by simp;omega)
 have hb1:(p.length+1) * 1≤140737488355328:=by omega
 have happ:bx By p++[AV.int .u8 b]=bx By (p++[b]):=by rw [aY];rfl
 have hlen:(p++[b]).length=p.length+1:=by simp
 have htk:pi p.length (bx By p)=bx By p:=dV (by simp)
 have hc:=fun S' (hh:dc (p++[b])=2)=>Ki w0 S' (p++[b]) hh (by
  intro x hx
  rcases cH.1 hx with hx|hx
  ·exact hp x hx
  ·rw [bk.1 hx];exact hb)
 have hall:=By.all1 p
 simp only [AV.cells] at hall
 have okA:=By.ok p
 simp only [cN,AV.cells] at okA
 have hle:(p.length:Int)≤(p.length:Int):=Eu _
 have hbe:(p.length==p.length)=true:=by simp
 unfold dP at h
 have Happ:=ab happ
 have Hc:=ab hc
 have Hrec:=ab hrec
 have H:=ab h
 clear hp hb happ hc hrec h hl3 hr
 refine eN func213 rfl ntmps213 fun hO=>?_
 repeat' first|refine st ?_|(refine ca ?_;apply hri)|(refine br ?_ ?_<;>intro hb)|fail
 rw [Happ.out]
 refine iA (S.length+1) ss ?_
 try simp only [go_sem, *]
 obtain⟨kd,hkd⟩:∃ kd,dc (p++[b])=kd:=⟨_,rfl⟩
 rw [hkd] at hk
 have h012:kd=0∨kd=1∨kd=2:=by
  rw [← hkd]
  cases p with
  | nil =>
   simp only [fS,dc];repeat' split
   all_goals simp
  | cons a r =>
   simp only [ft,dc];repeat' split
   all_goals simp
 rcases h012 with rfl|rfl|rfl
 ·have hh:=H.out
  rw [hkd,if_neg (by decide),if_neg (by decide)] at hh
  clear hkd
  by_cases hp:p=[]
  ·subst hp
   rw [if_pos rfl] at hh
   have e0:(((0:Nat):Int)==0)=true:=rfl
   unfold h_ at hh
   simp only [ap,aq,Co] at hh
   repeat' first|refine st ?_|(refine ca ?_;apply hk)|(refine br ?_ ?_<;>intro hb)|fail
   refine fR results213 ?_
   exact hh
  ·rw [if_neg hp] at hh
   have hrec:=Hrec.out hp
   have hl0:((p.length:Int)==0)=false:=by
    rw [beq_eq_false_iff_ne]
    intro e
    exact hp (j_.1 (by omega))
   have hq1:(gA b).2.length≤1:=by unfold gA;split<;>(try split)<;>simp
   generalize gA b=q at hrec hh hq1
   obtain⟨q1,q2⟩:=q
   unfold h_ at hh hrec
   simp only [ap,Co] at hh hrec hq1
   have okC:=Co.ok q2
   simp only [cN,AV.cells] at okC
   have hb8:(1+q2.length) * 8≤140737488355328:=by omega
   clear hp hq1
   repeat' first|refine st ?_|(refine ca ?_;first|apply hk|apply hrec)|(refine br ?_ ?_<;>intro hb)|fail
   have hcm:(1+q2.length=q2.length+1)=True:=by rw [Nat.add_comm];simp
   refine fR results213 ?_
   exact hh
 ·have hh:=H.out
  rw [hkd,if_neg (by decide),if_pos rfl] at hh
  unfold h_ at hh
  simp only [aq] at hh
  clear hkd
  repeat' first|refine st ?_|(refine ca ?_;apply hk)|(refine br ?_ ?_<;>intro hb)|fail
  refine fR results213 ?_
  exact hh
 ·have hh:=H.out
  rw [hkd,if_pos rfl] at hh
  have hc:=fun S'=>Hc.out S' hkd
  unfold h_ at hh
  simp only [ap,aq,Co] at hh
  clear hkd
  repeat' first|refine st ?_|(refine ca ?_;first|apply hk|apply hc)|(refine br ?_ ?_<;>intro hb)|fail
  refine fR results213 ?_
  exact hh
theorem Ih(b:Nat)(hb:b<256)(R:Rt)(h:R (.ret (h_ (gA b))) S):aj prog w0 213 [.sval false [],.int .u8 b] S R:=by
 refine B2 w0 S [] b hb rfl (by simp) (fun hh=>absurd rfl hh) R ?_
 have e:dP [] b=gA b:=by unfold dP gA;simp
 rw [e];exact h
theorem G0(p:List Nat)(b:Nat)(hb:b<256)(hr:fc p=true)(hp:∀ x∈p,x<256)(R:Rt)(h:R (.ret (h_ (dP p b))) S) :
  aj prog w0 213 [.sval false (p.map By),.int .u8 b] S R :=
 B2 w0 S p b hb hr hp (fun _ S' R h=>Ih w0 S' b hb R h) R h
end Go.Proofs.YthdbijpefkapnaaGreatDoor
