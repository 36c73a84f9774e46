/- A part of the proof. -/
import Derived.Test.YthdbijpefkapnaaGreatDoorOfWalk6
import Derived.Shelf.Strings.Repeat
import Derived.Shelf.Strings.SlTrimAscii
set_option linter.all false
set_option maxHeartbeats 40000000
open And renaming intro → a7
open BitVec renaming ofInt → ar, toNat_and → Fz, toNat_ofInt → cH, toNat_or → IU
open Bool renaming false_eq_true → aZ, not_eq_false' → aE, not_eq_true' → ay, true_and → bP
open Function renaming comp_def → aY
open Go.IntKind renaming bits → bk, i64 → ae, u8 → a6
open Go.IntWalk renaming i64_in → ai, u8_in → cR
open Go.Lib renaming hid → ab, repeatL → oI
open Go.RowKit.Below renaming refl → pR
open List renaming all_eq_true → aD, all_map → bz, any_eq_false → Jm, cons_append → fQ, dropLast_concat_getLast → wD, eq_nil_of_length_eq_zero → bW, getElem?_append_left → au, getElem?_append_right → aA, getElem?_eq_getElem → ap, getElem?_eq_some_iff → af, getElem?_map → aJ, getElem?_set_ne → be, length → jI, length_append → ah, length_cons → aB, length_map → bi, length_nil → aI, length_pos_iff → pV, map → bn, map_append → aM, map_cons → al, map_nil → aj, mem_map → aN, mem_range → dT, range → bh, replicate → a8, replicate_succ → ml, set_append_left → iP, set_append_right → eI, take_add_one → jW, take_left → yB, take_length → bC, toList_toArray → bj
open Nat renaming and_two_pow_sub_one_eq_mod → z6, mod_lt → eh, pow_le_pow_right → gM, zero_le → bf
open UInt8 renaming ofNat → az, ofNat_toNat → cw, toNat → aK
namespace Go.Proofs.YthdbijpefkapnaaGreatDoor
open Go Go.Fen Go.Proofs.Tryz
attribute [local irreducible] aX WP ao dS i7 cJ aU cC
set_option maxRecDepth 8000
variable (w0:World) (S:List aH)
theorem Bc(a g i:Nat)(ad:AV)(bs:List UInt8)(c:UInt8)(hb:Oa S a g i ad bs)(hlen:(bs.length+1) * 1≤140737488355328)(R:Rt)
  (h:R (.ret .inil) ((S.set g (.arr 5 1 0 (i+1) ((bs++[c]).map jG))).set a (.cells [.own a 0,.sown g (i+1) (bs.length+1)] (some 90)))) :
  ao prog w0 192 [.own a 0,.int .u8 c.toNat] S R:=by
 obtain⟨ha,hg,had⟩:=hb
 have hal:=(af.1 ha).1
 have hgl:=(af.1 hg).1
 have hne:a≠g:=by rintro rfl;rw [ha] at hg;cases hg
 obtain⟨S1,hS1⟩:∃ S1,S.set a (.cells [.own a 0,.sown g i bs.length] (some 90))=S1:=⟨_,rfl⟩
 have hck:∀ R:gL→List aH→Prop,R (.ret (.tup [])) S1→ao prog w0 87 [.own a 0] S R:=by
  intro R hR
  rcases had with rfl|rfl
  ·exact ti w0 S a _ ha (by simpa [AV.lt] using hgl) hal R (hS1▸hR)
  ·have:S.set a (.cells [.own a 0,.sown g i bs.length] (some 90))=S:=gB ha
   rw [this] at hS1
   exact th w0 S a _ ha R (hS1▸hR)
 have h1:S1[a]? = some (.cells [.own a 0,.sown g i bs.length] (some 90)):=by rw [← hS1];simp [hal]
 have h2:S1[g]? = some (.arr 5 1 0 i (bs.map jG)):=by rw [← hS1,be hne];exact hg
 have hl1:S1.length=S.length:=by rw [← hS1];simp
 have hbl:(bs.map jG).length=bs.length:=χ
 have h3:∀ B,(S1.set g B)[a]? = some (.cells [.own a 0,.sown g i bs.length] (some 90)):=by intro B;rw [be (Ne.symm hne)];exact h1
 have hg1:g<S1.length:=by rw [hl1];exact hgl
 have ha1:a<S1.length:=by rw [hl1];exact hal
 have h4:∀ B,(S1++[B])[g]? = some (.arr 5 1 0 i (bs.map jG)):=by intro B;rw [au hg1];exact h2
 have h5:∀ B,(S1++[B])[a]? = some (.cells [.own a 0,.sown g i bs.length] (some 90)):=by intro B;rw [au ha1];exact h1
 have h6:∀ B C,(S1++[B]).set g C=S1.set g C++[B]:=by intro B C;exact iP _ _ hg1
 have h7:∀ B C,(S1.set g C++[B])[a]? = some (.cells [.own a 0,.sown g i bs.length] (some 90)):=by intro B C;rw [au (by simpa using ha1)];exact h3 C
 have h8:∀ B C D,(S1.set g C++[B]).set a D=(S1.set g C).set a D++[B]:=by intro B C D;exact iP _ _ (by simpa using ha1)
 have hfin:∀ B C,(S1.set g B).set a C=(S.set g B).set a C:=by
  intro B C
  rw [← hS1,List.set_comm _ _ hne,List.set_set]
 rw [aM] at h
 have Hfin:=ab hfin
 have Hal:=ab (a7 hal hgl)
 have H:=ab h
 have Hl1:=ab hl1
 clear hg had hal hgl hne hS1 hfin h hg1 ha1 hl1
 refine eN func192 rfl ntmps192 fun hO=>?_
 repeat' first|apply fX|apply eA|apply dC|apply eB|apply fY|apply b8|apply gh|apply b_|apply bN|apply cM|apply b9|apply bM|apply bv|apply gg|(apply bw;(· rfl))|(apply cK;simp only [bj])|(apply dx;(· rfl);(· simp only [go_sem, *,bz,aY,cY];try rfl);(· rfl);simp only [putA])|(apply eE;simp only [putA])|apply cN|(apply df [];(· simp only [go_sem, *,bz,aY,cY];try rfl);(· rfl);(· simp only [go_sem, *,bz,aY,cY];try rfl);(· rfl);(iterate 2 (· simp only [go_sem, *,bz,aY,cY];try rfl));(first|apply hck);simp only [aU,putA])|(apply dy;(· simp only [go_sem, *,bz,aY,cY];try rfl);(· rfl);(· simp only [go_sem, *,bz,aY,cY];try rfl))|(apply dM;(iterate 2 (· simp only [go_sem, *,bz,aY,cY];try rfl));(· rfl);simp only [putA])|(apply bL;(· simp only [go_sem, *,bz,aY,cY];try rfl);(· rfl);simp only [putA])|(apply dz;(· simp only [go_sem, *,bz,aY,cY];try rfl))|(apply dB;(· simp only [go_sem, *,bz,aY,cY];try rfl))|(apply cL;(· rfl);(fail_if_success (focus (show _=some true;(· simp only [go_sem, *,bz,aY,cY];try rfl))));(· simp only [go_sem, *,bz,aY,cY];try rfl);all_goals (intro hb;try simp only [ay,aE] at hb))|(apply dA;(· simp only [go_sem, *,bz,aY,cY];try rfl);all_goals (intro hb;try simp only [ay,aE] at hb))|fail
 refine uJ ss ss (by (simp only [go_sem, *,results192];try rfl)) (od (S2:=(S1.set g (.arr 5 1 0 (i+1) (bn jG bs++[jG c]))).set a (.cells [.own a 0,.sown g (i+1) (bs.length+1)] (some 90))) ?_ ?_) ss ss rfl ?_
 ·have hb4:ltL S.length (bn jG bs++[jG c])=true:=by rw [show bn jG bs++[jG c]=bn jG (bs++[c]) by simp];exact ww _ _
  rw [Hfin.out]
  refine bH.set (bH.set hO hb4) ?_
  have:=Hal.out;simp [aH.ltB,ltL,AV.lt,this.1,this.2]
 ·simpa using Hl1.out
 ·have e:((S1.set g (.arr 5 1 0 (i+1) (bn jG bs++[jG c]))).set a (.cells [.own a 0,.sown g (i+1) (bs.length+1)] (some 90))++[aH.arr 5 1 0 0 [jG c]]).take S.length=(S.set g (.arr 5 1 0 (i+1) (bn jG bs++[jG c]))).set a (.cells [.own a 0,.sown g (i+1) (bs.length+1)] (some 90)):=by
   rw [Hfin.out]
   have:=yB (l₁:=(S.set g (.arr 5 1 0 (i+1) (bn jG bs++[jG c]))).set a (.cells [.own a 0,.sown g (i+1) (bs.length+1)] (some 90))) (l₂:=[aH.arr 5 1 0 0 [jG c]])
   simpa using this
  refine cast ?_ H.out
  rw [show ([c].map jG)=[jG c] from rfl,← e]
  rfl
def eG(X:Nat)(ad:AV)(i:Nat)(bs:List UInt8)(fr tz:Int)(hv:AV)(wt rs:Int):List aH :=
 [aH.cells [ad,.sown (X+6) i bs.length] (some 90),aH.cells [.int .i64 fr],aH.cells [.int .i64 tz],aH.cells [hv],aH.cells [.int .i64 wt],aH.cells [.int .i64 rs],aH.arr 5 1 0 i (bs.map jG)]
theorem Nd(w0:World)(X:List aH)(ad:AV)(had:ad=.nilp∨ad=.own X.length 0)(i:Nat)(bs:List UInt8)(fr tz:Int)(hv:AV)(wt rs:Int)(c:UInt8)(hlen:bs.length≤1000000)(R:Rt)
  (h:R (.ret .inil) (X++eG X.length (.own X.length 0) (i+1) (bs++[c]) fr tz hv wt rs)) :
  ao prog w0 192 [.own X.length 0,.int .u8 c.toNat] (X++eG X.length ad i bs fr tz hv wt rs) R:=by
 refine Bc w0 _ X.length (X.length+6) i ad bs c ⟨by simp [eG],by rw [aA ω];simp [eG],had⟩ ω R ?_
 have e:((X++eG X.length ad i bs fr tz hv wt rs).set (X.length+6) (.arr 5 1 0 (i+1) ((bs++[c]).map jG))).set X.length (.cells [.own X.length 0,.sown (X.length+6) (i+1) (bs.length+1)] (some 90)) =
   X++eG X.length (.own X.length 0) (i+1) (bs++[c]) fr tz hv wt rs:=by
  unfold eG
  rw [eI _ _ ω,eI _ _ ω]
  simp
 rw [e]
 exact h
theorem G0(X:List aH)(hX:bH X)(ad:AV)(had:ad=.nilp∨ad=.own X.length 0)(i:Nat)(bs:List UInt8)(fr tz:Int)(f:Nat)(wt rs:Int):bH (X++eG X.length ad i bs fr tz (.fn (.func f) [] [.own X.length 0]) wt rs):=by
 refine bH.app hX ?_
 unfold eG
 have h4:ltL (X.length+7) (bn jG bs)=true:=ww _ _
 rcases had with rfl|rfl<;>simp [aH.ltB,ltL,AV.lt,h4]
theorem AN(w0:World)(X:List aH)(hX:bH X)(ad:AV)(had:ad=.nilp∨ad=.own X.length 0)(i:Nat)(bs:List UInt8)(fr tz:Int)(wt rs:Int)(v:Nat)(hv:v<64)(hlen:bs.length≤1000000)(R:Rt)
  (h:R (.ret (.tup [])) (X++eG X.length (.own X.length 0) (i+1) (bs++[bt v]) fr tz (.fn (.func 191) [] [.own X.length 0]) wt rs)) :
  ao prog w0 191 [.int .i64 v,.own X.length 0] (X++eG X.length ad i bs fr tz (.fn (.func 191) [] [.own X.length 0]) wt rs) R:=by
 have hsg:([65,66,67,68,69,70,71,72,73,74,75,76,77,78,79,80,81,82,83,84,85,86,87,88,89,90,97,98,99,100,101,102,103,104,105,106,107,108,109,110,111,112,113,114,115,116,117,118,119,120,121,122,48,49,50,51,52,53,54,55,56,57,43,47]:List UInt8)[v]? = some (bt v):=by
  have:∀ v,v<64→jM[v]? = some (bt v):=by decide +kernel
  exact this v hv
 generalize bt v=c at h hsg
 have hw:=Nd w0 X ad had i bs fr tz (.fn (.func 191) [] [.own X.length 0]) wt rs c hlen
 have hok:=G0 X hX (.own X.length 0) (.inr rfl) (i+1) (bs++[c]) fr tz 191 wt rs
 generalize hS:X++eG X.length (.own X.length 0) (i+1) (bs++[c]) fr tz (.fn (.func 191) [] [.own X.length 0]) wt rs=S2 at *
 have hl2:S2.length=X.length+7:=by rw [← hS];simp [eG]
 have hl1:(X++eG X.length ad i bs fr tz (.fn (.func 191) [] [.own X.length 0]) wt rs).length=X.length+7:=by simp [eG]
 have hgt:(X++eG X.length ad i bs fr tz (.fn (.func 191) [] [.own X.length 0]) wt rs)[X.length]? = some (aH.cells [ad,.sown (X.length+6) i bs.length] (some 90)):=by simp [eG]
 generalize X++eG X.length ad i bs fr tz (.fn (.func 191) [] [.own X.length 0]) wt rs=S1 at *
 clear hX had hlen hS hv
 have Hok:=ab hok
 clear hok
 refine eN func191 rfl ntmps191 fun hO=>?_
 refine ε1 hw ?_
 refine K8 results191 ?_ ?_ ?_
 ·exact Hok.out
 ·rw [hl1,hl2]
 ·exact h
theorem sf(fr tz:Int)(f a:Nat)(hfr:ae.wrap fr=fr)(R:Rt)
  (h:R (.ret (.fn (.func 231) [] [.own (S.length+4) 0,.own S.length 0,.own (S.length+3) 0,.own (S.length+1) 0,.own (S.length+2) 0])) (S++[aH.cells [.int .i64 fr],aH.cells [.int .i64 tz],aH.cells [.fn (.func f) [] [.own a 0]],aH.cells [.int .i64 0],aH.cells [.int .i64 0]])) :
  ao prog w0 190 [.int .i64 fr,.int .i64 tz,.fn (.func f) [] [.own a 0]] S R:=by
 refine zD func190 rfl (by decide +kernel) (by rw [ntmps190];simp) (by rw [ntmps190];decide) (fun hO=>?_);rw [ntmps190]
 refine ε0 ?_
 (apply zy;iterate 4 (· simp only [go_sem, *,results190];try rfl))
 exact h
theorem NQ{a b k:Nat}(ha:a<4294967296)(hk:k≤16)(hb:b<2 ^ k):ae.wrap (((ar ae.bits (ae.wrap ((a:Int) * 2 ^ min k 64)) ||| ar ae.bits (b:Int)).toNat:Nat):Int)=((a * 2 ^ k+b:Nat):Int):=by
 have h2:2 ^ k≤2 ^ 16:=gM ω hk
 have h3:a * 2 ^ k≤4294967296 * 65536:=Nat.mul_le_mul ω h2
 have e1:ae.wrap ((a:Int) * 2 ^ min k 64)=((a * 2 ^ k:Nat):Int):=by
  rw [Nat.min_eq_left ω,show ((a:Int) * 2 ^ k)=((a * 2 ^ k:Nat):Int) by simp]
  exact ai _ ω
 rw [e1,IU]
 have e2:(ar ae.bits ((a * 2 ^ k:Nat):Int)).toNat=a * 2 ^ k:=by
  show (ar 64 _).toNat=_
  rw [cH];omega
 have e3:(ar ae.bits (b:Int)).toNat=b:=by
  show (ar 64 _).toNat=_
  rw [cH];omega
 rw [e2,e3]
 have e4:a * 2 ^ k ||| b=a * 2 ^ k+b:=by
  have:=Nat.shiftLeft_add_eq_or_of_lt hb a
  rw [Nat.shiftLeft_eq] at this
  exact this.symm
 rw [e4]
 exact ai _ ω
theorem zU{m k:Nat}(hm:m<4294967296)(hk:k≤16):ae.wrap (((ar ae.bits (m:Int) &&& ar ae.bits ((2 ^ k - 1:Nat):Int)).toNat:Nat):Int)=((m % 2 ^ k:Nat):Int):=by
 rw [Fz]
 have h2:2 ^ k≤2 ^ 16:=gM ω hk
 have h0:0<2 ^ k:=Nat.two_pow_pos k
 have e1:(ar ae.bits (m:Int)).toNat=m:=by
  show (ar 64 _).toNat=_
  rw [cH];omega
 have e2:(ar ae.bits ((2 ^ k - 1:Nat):Int)).toNat=2 ^ k - 1:=by
  show (ar 64 _).toNat=_
  rw [cH];omega
 rw [e1,e2,z6 m k]
 have:=eh m h0
 exact ai _ ω
theorem lr(m k:Nat)(hk:k≤16):(m:Int).fdiv (2 ^ min k 64)=((m / 2 ^ k:Nat):Int):=by
 rw [Nat.min_eq_left ω,Int.fdiv_eq_ediv_of_nonneg _ (by exact Int.le_of_lt (Int.pow_pos δ))]
 simp
theorem Ny(w0:World)(X:List aH)(hX:bH X)(ad:AV)(had:ad=.nilp∨ad=.own X.length 0)(i:Nat)(q:nQ)(n:Nat)(hn:n<256)(hq:(q.wait=0∧q.rest=0)∨(q.wait=2∧q.rest<4)∨(q.wait=4∧q.rest<16))(hlen:q.out.length≤100000)(R:Rt)
  (h:∀ i',R (.ret (.tup [.int .i64 ((eT q n).wait:Nat),.int .i64 ((eT q n).rest:Nat)])) (X++eG X.length (.own X.length 0) i' ((eT q n).out.map bt) 8 6 (.fn (.func 191) [] [.own X.length 0]) ((eT q n).wait:Nat) ((eT q n).rest:Nat))) :
  ao prog w0 231 [.int .i64 n,.own (X.length+5) 0,.own (X.length+1) 0,.own (X.length+4) 0,.own (X.length+2) 0,.own (X.length+3) 0] (X++eG X.length ad i (q.out.map bt) 8 6 (.fn (.func 191) [] [.own X.length 0]) (q.wait:Nat) (q.rest:Nat)) R:=by
 obtain⟨o,w,r⟩:=q
 have w2:ae.wrap 2=2:=δ
 have w4:ae.wrap 4=4:=δ
 have w6:ae.wrap 6=6:=δ
 have w8:ae.wrap 8=8:=δ
 have w10:ae.wrap 10=10:=δ
 have w12:ae.wrap 12=12:=δ
 have wz:ae.wrap 0=0:=δ
 have c0:((0:Nat):Int)=0:=rfl
 have c2:((2:Nat):Int)=2:=rfl
 have c4:((4:Nat):Int)=4:=rfl
 simp only at hq hlen
 obtain⟨m,hmm⟩:∃ m,m=r * 256+n:=⟨_,rfl⟩
 have hor:=NQ (a:=r) (b:=n) (k:=8) ω ω ω
 have hmp:r * 2 ^ 8+n=m:=ω
 rw [hmp] at hor
 simp only [bk] at hor
 clear hmp
 have hm:m<256 * 2 ^ w:=by rcases hq with⟨rfl,hr⟩|⟨rfl,hr⟩|⟨rfl,hr⟩<;>omega
 rcases hq with⟨rfl,hr⟩|⟨rfl,hr⟩|⟨rfl,hr⟩
 ·have e:eT ⟨o,0,r⟩ n=⟨o++[m / 4],2,m % 4⟩:=by rw [hmm];rfl
  rw [e] at h
  have hv:m / 4<64:=ω
  have h1:=lr m 2 ω
  have h2:=zU (m:=m) (k:=2) ω ω
  have h3:ae.wrap (ae.wrap (1 * 2 ^ min 2 64) - 1)=3:=δ
  have h1:(m:Int).fdiv (2 ^ min 2 64)=((m / 4:Nat):Int):=h1
  have h2:ae.wrap (((ar ae.bits (m:Int) &&& ar ae.bits 3).toNat:Nat):Int)=((m % 4:Nat):Int):=h2
  simp only [bk] at h2
  have hp:=AN w0 X hX ad had i (o.map bt) 8 6 2 m (m / 4) hv (by rw [bi];omega)
  have hok:=fun B=>G0 X hX (.own X.length 0) (.inr rfl) (i+1) B 8 6 191 2 ((m % 4:Nat):Int)
  simp only [aM,al,aj] at h
  generalize o.map bt++[bt (m / 4)]=B at h hp
  generalize o.map bt=A at h hp ⊢
  have h:=h (i+1)
  unfold eG at h hp hok ⊢
  simp only at h hp hok ⊢
  have Hok:=ab (hok B)
  clear hX had hn hr e hm hmm hv hlen hok
  refine eN func231 rfl ntmps231 fun hO=>?_
  repeat' first|refine st ?_|(refine ca ?_;apply hp)|(refine br ?_ ?_<;>intro hb)|apply cS|apply gn|refine sd ?_|apply aw|(apply aF;(· decide +kernel))|refine bd ?_ ?_|(refine cd ?_;apply hp)|fail
  ·repeat' first|exact aw|refine iG ?_|refine hY (by decide +kernel) ?_
  refine Ib results231 ?_ ?_ ?_
  ·exact Hok.out
  ·simp
  ·exact h
 ·have e:eT ⟨o,2,r⟩ n=⟨o++[m / 16],4,m % 16⟩:=by rw [hmm];rfl
  rw [e] at h
  have hv:m / 16<64:=ω
  have h1:=lr m 4 ω
  have h2:=zU (m:=m) (k:=4) ω ω
  have h3:ae.wrap (ae.wrap (1 * 2 ^ min 4 64) - 1)=15:=δ
  have h1:(m:Int).fdiv (2 ^ min 4 64)=((m / 16:Nat):Int):=h1
  have h2:ae.wrap (((ar ae.bits (m:Int) &&& ar ae.bits 15).toNat:Nat):Int)=((m % 16:Nat):Int):=h2
  simp only [bk] at h2
  have hp:=AN w0 X hX ad had i (o.map bt) 8 6 4 m (m / 16) hv (by rw [bi];omega)
  have hok:=fun B=>G0 X hX (.own X.length 0) (.inr rfl) (i+1) B 8 6 191 4 ((m % 16:Nat):Int)
  simp only [aM,al,aj] at h
  generalize o.map bt++[bt (m / 16)]=B at h hp
  generalize o.map bt=A at h hp ⊢
  have h:=h (i+1)
  unfold eG at h hp hok ⊢
  simp only at h hp hok ⊢
  have Hok:=ab (hok B)
  clear hX had hn hr e hm hmm hv hlen hok
  refine eN func231 rfl ntmps231 fun hO=>?_
  repeat' first|refine st ?_|(refine ca ?_;apply hp)|(refine br ?_ ?_<;>intro hb)|apply cS|apply gn|refine sd ?_|apply aw|(apply aF;(· decide +kernel))|refine bd ?_ ?_|(refine cd ?_;apply hp)|fail
  ·repeat' first|exact aw|refine iG ?_|refine hY (by decide +kernel) ?_
  refine Ib results231 ?_ ?_ ?_
  ·exact Hok.out
  ·simp
  ·exact h
 ·have e:eT ⟨o,4,r⟩ n=⟨o++[m / 64,m % 64],0,0⟩:=by rw [hmm];rfl
  rw [e] at h
  have hv:m / 64<64:=ω
  have hv2:m % 64<64:=ω
  have h1:=lr m 6 ω
  have h2:=zU (m:=m) (k:=6) ω ω
  have h3:ae.wrap (ae.wrap (1 * 2 ^ min 6 64) - 1)=63:=δ
  have h4:ae.wrap (ae.wrap (1 * 2 ^ min 0 64) - 1)=0:=δ
  have h1:(m:Int).fdiv (2 ^ min 6 64)=((m / 64:Nat):Int):=h1
  have h2:ae.wrap (((ar ae.bits (m:Int) &&& ar ae.bits 63).toNat:Nat):Int)=((m % 64:Nat):Int):=h2
  simp only [bk] at h2
  obtain⟨u,hu⟩:∃ u,u=m % 64:=⟨_,rfl⟩
  have hu1:(u:Int).fdiv (2 ^ min 0 64)=(u:Int):=by have:=lr u 0 ω;simpa using this
  have hu2:=zU (m:=u) (k:=0) ω ω
  have hu2:ae.wrap (((ar ae.bits (u:Int) &&& ar ae.bits 0).toNat:Nat):Int)=0:=by rw [Nat.pow_zero,Nat.mod_one] at hu2;exact hu2
  simp only [bk] at hu2
  rw [← hu] at h2 h hv2
  have hp:=AN w0 X hX ad had i (o.map bt) 8 6 6 m (m / 64) hv (by rw [bi];omega)
  have hp2:=AN w0 X hX (.own X.length 0) (.inr rfl) (i+1) (o.map bt++[bt (m / 64)]) 8 6 0 (u:Int) u hv2 (by rw [ah,bi];simp;omega)
  have hok:=fun B=>G0 X hX (.own X.length 0) (.inr rfl) (i+1+1) B 8 6 191 0 0
  simp only [aM,al,aj] at h
  rw [show bn bt o++[bt (m / 64),bt u]=(bn bt o++[bt (m / 64)])++[bt u] by simp] at h
  generalize hB:o.map bt++[bt (m / 64)]=B at h hp hp2
  generalize hC:B++[bt u]=C at h hp2
  generalize o.map bt=A at h hp ⊢
  have h:=h (i+1+1)
  unfold eG at h hp hp2 hok ⊢
  simp only at h hp hp2 hok ⊢
  have Hok:=ab (hok C)
  clear hX had hn hr e hm hmm hv hv2 hlen hok hB hC hu
  refine eN func231 rfl ntmps231 fun hO=>?_
  repeat' first|refine st ?_|(refine ca ?_;first|apply hp|apply hp2)|(refine br ?_ ?_<;>intro hb)|apply cS|apply gn|refine sd ?_|apply aw|(apply aF;(· decide +kernel))|refine bd ?_ ?_|(refine cd ?_;first|apply hp|apply hp2)|fail
  ·repeat' first|exact aw|refine iG ?_|refine hY (by decide +kernel) ?_
  ·repeat' first|exact aw|refine iG ?_|refine hY (by decide +kernel) ?_
  refine Ib results231 ?_ ?_ ?_
  ·exact Hok.out
  ·simp
  ·exact h
theorem wv(a:Nat)(ad v:AV)(l:Nat)(ha:S[a]? = some (.cells [ad,v] (some 90)))(hv:v=.snil∧l=0∨(∃ g i,v=.sown g i l))(R:Rt)(h:R (.ret (.int .i64 l)) S):ao prog w0 195 [.own a 0] S R:=by
 rcases hv with⟨rfl,rfl⟩|⟨g,i,rfl⟩
 ·have h:R (.ret (.int .i64 0)) S:=h
  exact γR0 func195 ntmps195 results195 h
 ·exact γR0 func195 ntmps195 results195 h
theorem Nk(w0:World)(X:List aH)(ad:AV)(had:ad=.nilp∨ad=.own X.length 0)(i:Nat)(bs:List UInt8)(fr tz:Int)(hv:AV)(wt rs:Int)(hpos:1≤bs.length)(R:Rt)
  (h:R (.ret (.str bs)) (X++[aH.cells [ad,.sown (X.length+6) i bs.length] (some 90),aH.cells [.int .i64 fr],aH.cells [.int .i64 tz],aH.cells [hv],aH.cells [.int .i64 wt],aH.cells [.int .i64 rs],.dead])) :
  ao prog w0 41 [.own X.length 0] (X++eG X.length ad i bs fr tz hv wt rs) R:=by
 refine uP w0 _ X.length (X.length+6) i ad bs ⟨by simp [eG],by rw [aA ω];simp [eG],had⟩ hpos R ?_
 unfold eG
 rw [eI _ _ ω]
 simpa using h
def ib(s:List UInt8)(k:Nat):nQ:=((s.map aK).take k).foldl eT ⟨[],0,0⟩
theorem sS{s:List UInt8}{k:Nat}{b:UInt8}(h:s[k]? = some b):ib s (k+1)=eT (ib s k) b.toNat:=by
 unfold ib
 have:(s.map aK)[k]? = some b.toNat:=by rw [aJ,h];rfl
 rw [jW,this,List.foldl_append];rfl
def Cm(q:nQ):Prop:=(q.wait=0∧q.rest=0)∨(q.wait=2∧q.rest<4)∨(q.wait=4∧q.rest<16)
theorem BV{q:nQ}{v:Nat}(h:Cm q)(hv:v<256):Cm (eT q v)∧(eT q v).out.length≤q.out.length+2:=by
 obtain⟨o,w,r⟩:=q
 unfold Cm eT at *
 simp only at *
 rcases h with⟨rfl,rfl⟩|⟨rfl,h⟩|⟨rfl,h⟩<;>simp<;>omega
theorem AL(s:List UInt8):∀ k,k≤s.length→Cm (ib s k)∧(ib s k).out.length≤2 * k
 | 0,_=>by unfold ib Cm;simp
 | k+1,h=>by
  obtain⟨h1,h2⟩:=AL s k ω
  have hx:s[k]? = some (s[k]'ω):=ap ω
  obtain⟨h3,h4⟩:=BV h1 (s[k]'ω).toNat_lt
  rw [sS hx]
  exact⟨h3,ω⟩
theorem B7(s:List UInt8):(lU (ib s s.length)).map bt=gx s:=by
 unfold ib gx
 rw [← ED _ (toNat_lt s)]
 unfold La
 rw [show s.length=(s.map aK).length by simp,bC]
theorem x7(s:List UInt8):(gx s).length=(8 * s.length+5) / 6:=by unfold gx;simp [nF]
theorem Km(n:Nat):(n+2) / 3 * 4=(8 * n+5) / 6+gW ((8 * n+5) / 6):=by unfold gW;omega
theorem MY:Go.Proofs.Builder.Extra prog Go.Proofs.Tryz.lays105_ren where
 sizeBuilder:=by kernel_rfl
 liesBuilder:=by kernel_rfl
 t5:=Go.Proofs.Tryz.lays105.t5
 a5:=Go.Proofs.Tryz.lays105.a5
 z5:=Go.Proofs.Tryz.lays105.z5
 v5:=Go.Proofs.Tryz.lays105.v5
 infoByte:=by kernel_rfl
 cellsByte:=by kernel_rfl
 sizeByte:=by kernel_rfl
 neB5:=by decide +kernel
theorem Ax(s:List UInt8)(n:Nat)(hn:n≤9223372036854775807)(hl:s.length * n≤140737488355328)(R:Rt)(h:R (.ret (.str (oI s n))) S):ao prog w0 193 [.str s,.int .i64 n] S R:=by
 refine ao.lib (vs:=[.string ⟨s.toArray⟩,.int .i64 n]) (v:=.str (oI s n)) (c:=.string ⟨(oI s n).toArray⟩) (Go.Proofs.enters_of func193 (by kernel_rfl) rfl) rfl rfl ?_ h
 intro w hb
 refine(Go.Proofs.Any.strings_Repeat Go.Proofs.Tryz.lays105 MY ⟨s.toArray⟩ n w hn (by rw [show (⟨s.toArray⟩:ByteArray).size=s.length from rfl];exact hl)).mono ?_
 rintro e w' ⟨rfl,hw⟩
 exact⟨rfl,hw⟩
theorem yV(c:UInt8)(n:Nat):oI [c] n=a8 n c:=by
 induction n with
 | zero=>rfl
 | succ n ih=>rw [oI,ih,ml];rfl
theorem D_(R:Rt)(h:R (.ret (.tup [.str [],.int .i64 0])) S):ao prog w0 117 [.str []] S R:=by
 have hr:=fun S'=>sf w0 S' 8 6 191 S.length δ
 have hbe:=fun S' ha=>tr w0 S' S.length ha
 have hbl:=fun S' ha=>wv w0 S' S.length .nilp .snil 0 ha (.inl ⟨rfl,rfl⟩)
 have hsz:=fun S' (R:Rt) (h:R (.ret (.int .i64 0)) S')=>Jd w0 S' 0 δ R h
 have hre:=fun S' (R:Rt) (h:R (.ret (.str [])) S')=>Ax w0 S' [61] 0 δ δ R h
 have wz:ae.wrap 0=0:=δ
 have h:R (.ret (.tup [.str [],.int .i64 0])) S:=h
 refine eN func117 rfl ntmps117 fun hO=>?_
 repeat' first|refine st ?_|(refine ca ?_;first|apply hr|(apply hbe;(· simp only [go_sem, *];try rfl))|(apply hbl;(· simp only [go_sem, *];try rfl))|apply hsz|apply hre)|(refine br ?_ ?_<;>intro hb)|apply cS|apply gn|fail
 refine fR results117 ?_
 exact h
theorem Ha(s:List UInt8)(hs:s.length≤4096)(R:Rt)(h:R (.ret (.tup [.str (iw s),.int .i64 0])) S):ao prog w0 117 [.str s] S R:=by
 by_cases hn:s=[]
 ·subst hn
  exact D_ w0 S R h
 have hpos:0<s.length:=pV.2 hn
 have hr:=fun S'=>sf w0 S' 8 6 191 S.length δ
 have d0:decide ((4096:Int)<(s.length:Int))=false:=κ
 have H:=ab h
 clear hn h
 refine eN func117 rfl ntmps117 fun hO=>?_
 refine ε1 hr ?_
 refine nr (a:=S.length) (j:=1) 5 1 ss ss δ ?_
 simp only [go_sem, *]
 refine cD (fun (p:Nat × Nat × AV) env S'=>p.1≤s.length∧(p.2.2=.nilp∨p.2.2=.own S.length 0)∧env 1000000=.dfr []∧env 0=.str s∧env 4=.own S.length 0∧env 5=.fn (.func 231) [] [.own (S.length+5) 0,.own (S.length+1) 0,.own (S.length+4) 0,.own (S.length+2) 0,.own (S.length+3) 0] ∧
  env 6=.int .i64 ((ib s p.1).wait:Nat)∧env 7=.int .i64 ((ib s p.1).rest:Nat)∧env 15=.int .i64 s.length∧env 16=.int .i64 (p.1:Int) ∧
  S'=S++eG S.length p.2.2 p.2.1 ((ib s p.1).out.map bt) 8 6 (.fn (.func 191) [] [.own S.length 0]) ((ib s p.1).wait:Nat) ((ib s p.1).rest:Nat)) (fun p=>s.length - p.1) (0,0,.nilp) ?_ ?_
 ·exact⟨bf _,.inl rfl,ss,ss,ss,ss,ss,ss,ss,ss,rfl⟩
 ·rintro⟨k,i,ad⟩ env S' ⟨hk,had,e0,f0,f4,f5,f6,f7,f15,f16,rfl⟩ IH
  simp only at hk had f6 f7 f16
  have HI:=ab IH
  obtain⟨hi1,hi2⟩:=AL s k hk
  clear IH
  by_cases hlt:k<s.length
  ·obtain⟨b,hx⟩:∃ b,s[k]? = some b:=⟨_,ap hlt⟩
   have h1:decide ((k:Int)<(s.length:Int))=true:=by simpa using hlt
   have hw:ae.wrap ((k:Int)+1)=(k:Int)+1:=ai _ ω
   have hwb:ae.wrap (b.toNat:Int)=(b.toNat:Int):=ai _ (by have:=b.toNat_lt;omega)
   have hg:=Ny w0 S hO ad had i (ib s k) b.toNat b.toNat_lt hi1 ω
   rw [← sS hx] at hg
   generalize hp1:((ib s (k+1)).wait:Int)=p1 at hg
   generalize hp2:((ib s (k+1)).rest:Int)=p2 at hg
   generalize hp3:(ib s (k+1)).out.map bt=p3 at hg
   have Hp:=ab (a7 hp1 (a7 hp2 hp3))
   clear hp1 hp2 hp3
   unfold eG at hg
   simp only at hg ⊢
   generalize ((ib s k).wait:Int)=q1 at *
   generalize ((ib s k).rest:Int)=q2 at *
   generalize (ib s k).out.map bt=q3 at *
   have Hlt:=ab hlt
   have HO:=ab hO
   clear hlt hk had hpos hs hi1 hi2 hO
   refine ε1 hg ?_
   intro i'
   refine ε0 ?_
   obtain⟨hp1,hp2,hp3⟩:=Hp.out
   subst hp1 hp2 hp3
   refine HI.out (k+1,i',.own S.length 0) _ _ (by have:=Hlt.out;simp only;omega) ⟨Hlt.out,.inr rfl, ?_, ?_, ?_, ?_, ?_, ?_, ?_, ?_,rfl⟩
   all_goals (simp only [go_sem, *];try rfl)
  ·have hkl:k=s.length:=ω
   subst hkl
   have h1:decide ((s.length:Int)<(s.length:Int))=false:=χ
   have hea:=B7 s
   have hel:=x7 s
   have hpe:=Km s.length
   rw [← hel] at hpe
   have hh:=H.out
   unfold iw at hh
   have hsz:=fun S'=>Jd w0 S' s.length ω
   rw [hpe] at hsz
   have hp4:gW (gx s).length≤3:=by unfold gW;omega
   have hre:=fun S'=>Ax w0 S' [61] (gW (gx s).length) ω κ
   simp only [yV] at hre
   have hwp:ae.wrap (((gx s).length+gW (gx s).length:Nat) - ((gx s).length:Int))=((gW (gx s).length:Nat):Int):=by rw [ai _ ω];omega
   have hBl:1≤(gx s).length:=ω
   have hle:(gx s).length+(a8 (gW (gx s).length) (61:UInt8)).length≤9223372036854775807:=κ
   generalize ib s s.length=q at *
   generalize gW (gx s).length=pd at *
   have hBl2:(gx s).length≤100000:=ω
   clear hel hpe hs hpos hk HI H hp4
   obtain⟨o,w,r⟩:=q
   simp only at f6 f7 hi2 ⊢
   unfold Cm at hi1
   simp only at hi1
   generalize gx s=B at *
   rcases hi1 with⟨rfl,rfl⟩|⟨rfl,hr2⟩|⟨rfl,hr2⟩
   ·have e:o.map bt=B:=by simpa [lU] using hea
    rw [e]
    have hst:=Nk w0 S ad had i B 8 6 (.fn (.func 191) [] [.own S.length 0]) 0 0 hBl
    have hln:=fun S' ha=>wv w0 S' S.length ad (.sown (S.length+6) i B.length) B.length ha (.inr ⟨_,_,rfl⟩)
    unfold eG at hst ⊢
    have HO:=ab hO
    clear hea had hO hBl hBl2 hi2 e
    repeat' first|refine st ?_|(refine ca ?_;first|apply hst|apply hsz|(apply hln;(· simp only [go_sem, *];try rfl))|apply hre)|(refine br ?_ ?_<;>intro hb)|fail
    refine fR results117 ?_
    exact hh
   ·have e:o.map bt++[bt (r * 16)]=B:=by rw [← hea];simp [lU]
    obtain⟨v,hv⟩:∃ v,v=r * 16:=⟨_,rfl⟩
    rw [← hv] at e
    have hsh:ae.wrap ((r:Int) * 2 ^ min 4 64)=(v:Int):=by rw [show (2:Int) ^ min 4 64=16 by decide,ai _ ω];omega
    have hwd:ae.wrap 4=4:=δ
    have hc2:((2:Nat):Int)=2:=rfl
    have hsg:([65,66,67,68,69,70,71,72,73,74,75,76,77,78,79,80,81,82,83,84,85,86,87,88,89,90,97,98,99,100,101,102,103,104,105,106,107,108,109,110,111,112,113,114,115,116,117,118,119,120,121,122,48,49,50,51,52,53,54,55,56,57,43,47]:List UInt8)[v]? = some (bt v):=by
     have:∀ v,v<64→jM[v]? = some (bt v):=by decide +kernel
     exact this v ω
    have hol:o.length≤1000000:=by have:=congrArg jI e;simp at this;omega
    generalize bt v=c at hsg e
    have hwb:=Nd w0 S ad had i (o.map bt) 8 6 (.fn (.func 191) [] [.own S.length 0]) 2 (r:Int) c (by rw [bi];exact hol)
    rw [e] at hwb
    have hst:=Nk w0 S (.own S.length 0) (.inr rfl) (i+1) B 8 6 (.fn (.func 191) [] [.own S.length 0]) 2 (r:Int) hBl
    have hln:=fun S' ha=>wv w0 S' S.length (.own S.length 0) (.sown (S.length+6) (i+1) B.length) B.length ha (.inr ⟨_,_,rfl⟩)
    generalize o.map bt=A at *
    unfold eG at hst hwb ⊢
    have HO:=ab hO
    clear hea had hO hBl hBl2 hi2 e hol hr2 hv
    repeat' first|refine st ?_|(refine ca ?_;first|apply hwb|apply hst|apply hsz|(apply hln;(· simp only [go_sem, *];try rfl))|apply hre)|(refine br ?_ ?_<;>intro hb)|fail
    refine fR results117 ?_
    exact hh
   ·have e:o.map bt++[bt (r * 4)]=B:=by rw [← hea];simp [lU]
    obtain⟨v,hv⟩:∃ v,v=r * 4:=⟨_,rfl⟩
    rw [← hv] at e
    have hsh:ae.wrap ((r:Int) * 2 ^ min 2 64)=(v:Int):=by rw [show (2:Int) ^ min 2 64=4 by decide,ai _ ω];omega
    have hwd:ae.wrap 2=2:=δ
    have hc2:((4:Nat):Int)=4:=rfl
    have hsg:([65,66,67,68,69,70,71,72,73,74,75,76,77,78,79,80,81,82,83,84,85,86,87,88,89,90,97,98,99,100,101,102,103,104,105,106,107,108,109,110,111,112,113,114,115,116,117,118,119,120,121,122,48,49,50,51,52,53,54,55,56,57,43,47]:List UInt8)[v]? = some (bt v):=by
     have:∀ v,v<64→jM[v]? = some (bt v):=by decide +kernel
     exact this v ω
    have hol:o.length≤1000000:=by have:=congrArg jI e;simp at this;omega
    generalize bt v=c at hsg e
    have hwb:=Nd w0 S ad had i (o.map bt) 8 6 (.fn (.func 191) [] [.own S.length 0]) 4 (r:Int) c (by rw [bi];exact hol)
    rw [e] at hwb
    have hst:=Nk w0 S (.own S.length 0) (.inr rfl) (i+1) B 8 6 (.fn (.func 191) [] [.own S.length 0]) 4 (r:Int) hBl
    have hln:=fun S' ha=>wv w0 S' S.length (.own S.length 0) (.sown (S.length+6) (i+1) B.length) B.length ha (.inr ⟨_,_,rfl⟩)
    generalize o.map bt=A at *
    unfold eG at hst hwb ⊢
    have HO:=ab hO
    clear hea had hO hBl hBl2 hi2 e hol hr2 hv
    repeat' first|refine st ?_|(refine ca ?_;first|apply hwb|apply hst|apply hsz|(apply hln;(· simp only [go_sem, *];try rfl))|apply hre)|(refine br ?_ ?_<;>intro hb)|fail
    refine fR results117 ?_
    exact hh
theorem ofNat_toNat{v:Nat}(h:v<256):(az v).toNat=v:=κ
theorem Es(w0:World)(X:List aH)(hX:bH X)(ad:AV)(had:ad=.nilp∨ad=.own X.length 0)(i:Nat)(bs:List UInt8)(fr tz:Int)(wt rs:Int)(v:Nat)(hv:v<256)(hlen:bs.length≤1000000)(R:Rt)
  (h:R (.ret (.tup [])) (X++eG X.length (.own X.length 0) (i+1) (bs++[az v]) fr tz (.fn (.func 252) [] [.own X.length 0]) wt rs)) :
  ao prog w0 252 [.int .i64 v,.own X.length 0] (X++eG X.length ad i bs fr tz (.fn (.func 252) [] [.own X.length 0]) wt rs) R:=by
 have hsg:a6.wrap (v:Int)=(((az v).toNat:Nat):Int):=by rw [ofNat_toNat hv];exact cR _ ω
 generalize az v=c at h hsg
 have hw:=Nd w0 X ad had i bs fr tz (.fn (.func 252) [] [.own X.length 0]) wt rs c hlen
 have hok:=G0 X hX (.own X.length 0) (.inr rfl) (i+1) (bs++[c]) fr tz 252 wt rs
 generalize hS:X++eG X.length (.own X.length 0) (i+1) (bs++[c]) fr tz (.fn (.func 252) [] [.own X.length 0]) wt rs=S2 at *
 have hl2:S2.length=X.length+7:=by rw [← hS];simp [eG]
 have hl1:(X++eG X.length ad i bs fr tz (.fn (.func 252) [] [.own X.length 0]) wt rs).length=X.length+7:=by simp [eG]
 have hgt:(X++eG X.length ad i bs fr tz (.fn (.func 252) [] [.own X.length 0]) wt rs)[X.length]? = some (aH.cells [ad,.sown (X.length+6) i bs.length] (some 90)):=by simp [eG]
 generalize X++eG X.length ad i bs fr tz (.fn (.func 252) [] [.own X.length 0]) wt rs=S1 at *
 clear hX had hlen hS hv
 have Hok:=ab hok
 clear hok
 refine eN func252 rfl ntmps252 fun hO=>?_
 refine ε1 hw ?_
 refine K8 results252 ?_ ?_ ?_
 ·exact Hok.out
 ·rw [hl1,hl2]
 ·exact h
theorem Nz(w0:World)(X:List aH)(hX:bH X)(ad:AV)(had:ad=.nilp∨ad=.own X.length 0)(i:Nat)(q:nQ)(n:Nat)(hn:n<64)(hq:t8 q)(hlen:q.out.length≤100000)(R:Rt)
  (h:∀ ad' i',(ad'=.nilp∨ad'=.own X.length 0)→R (.ret (.tup [.int .i64 ((d_ q n).wait:Nat),.int .i64 ((d_ q n).rest:Nat)])) (X++eG X.length ad' i' ((d_ q n).out.map az) 6 8 (.fn (.func 252) [] [.own X.length 0]) ((d_ q n).wait:Nat) ((d_ q n).rest:Nat))) :
  ao prog w0 231 [.int .i64 n,.own (X.length+5) 0,.own (X.length+1) 0,.own (X.length+4) 0,.own (X.length+2) 0,.own (X.length+3) 0] (X++eG X.length ad i (q.out.map az) 6 8 (.fn (.func 252) [] [.own X.length 0]) (q.wait:Nat) (q.rest:Nat)) R:=by
 obtain⟨o,w,r⟩:=q
 unfold t8 at hq
 have wz0:ae.wrap 0=0:=δ
 have w2:ae.wrap 2=2:=δ
 have w4:ae.wrap 4=4:=δ
 have w6:ae.wrap 6=6:=δ
 have w8:ae.wrap 8=8:=δ
 have w10:ae.wrap 10=10:=δ
 have w12:ae.wrap 12=12:=δ
 have c0:((0:Nat):Int)=0:=rfl
 have c2:((2:Nat):Int)=2:=rfl
 have c4:((4:Nat):Int)=4:=rfl
 have c6:((6:Nat):Int)=6:=rfl
 simp only at hq hlen
 obtain⟨m,hmm⟩:∃ m,m=r * 64+n:=⟨_,rfl⟩
 have hor:=NQ (a:=r) (b:=n) (k:=6) ω ω ω
 have hmp:r * 2 ^ 6+n=m:=ω
 rw [hmp] at hor
 simp only [bk] at hor
 clear hmp
 have hm:m<64 * 2 ^ w:=by rcases hq with⟨rfl,hr⟩|⟨rfl,hr⟩|⟨rfl,hr⟩|⟨rfl,hr⟩<;>omega
 rcases hq with⟨rfl,hr⟩|⟨rfl,hr⟩|⟨rfl,hr⟩|⟨rfl,hr⟩
 ·have e:d_ ⟨o,0,r⟩ n=⟨o,6,m⟩:=by rw [hmm];rfl
  rw [e] at h
  have hok:=fun B=>G0 X hX ad had i B 6 8 252 6 (m:Int)
  have h:=h ad i had
  simp only at h ⊢
  generalize o.map az=A at h ⊢
  unfold eG at h hok ⊢
  have Hok:=ab (hok A)
  clear hX had hn hr e hm hmm hlen hok
  refine eN func231 rfl ntmps231 fun hO=>?_
  repeat' first|refine st ?_|(refine br ?_ ?_<;>intro hb)|apply cS|apply gn|refine sd ?_|apply aw|(apply aF;(· decide +kernel))|refine bd ?_ ?_|fail
  refine Ib results231 ?_ ?_ ?_
  ·exact Hok.out
  ·simp
  ·exact h
 ·have e:d_ ⟨o,6,r⟩ n=⟨o++[m / 16],4,m % 16⟩:=by rw [hmm];rfl
  rw [e] at h
  have hv:m / 16<256:=ω
  have h3:ae.wrap (ae.wrap (1 * 2 ^ min 4 64) - 1)=15:=δ
  have h1:(m:Int).fdiv (2 ^ min 4 64)=((m / 16:Nat):Int):=lr m 4 ω
  have h2:ae.wrap (((ar ae.bits (m:Int) &&& ar ae.bits 15).toNat:Nat):Int)=((m % 16:Nat):Int):=zU (m:=m) (k:=4) ω ω
  simp only [bk] at h2
  have hp:=Es w0 X hX ad had i (o.map az) 6 8 4 m (m / 16) hv (by rw [bi];omega)
  have hok:=fun B=>G0 X hX (.own X.length 0) (.inr rfl) (i+1) B 6 8 252 4 ((m % 16:Nat):Int)
  simp only [aM,al,aj] at h
  generalize o.map az++[az (m / 16)]=B at h hp
  generalize o.map az=A at h hp ⊢
  have h:=h (.own X.length 0) (i+1) (.inr rfl)
  unfold eG at h hp hok ⊢
  simp only at h hp hok ⊢
  have Hok:=ab (hok B)
  clear hX had hn hr e hm hmm hv hlen hok
  refine eN func231 rfl ntmps231 fun hO=>?_
  repeat' first|refine st ?_|(refine ca ?_;apply hp)|(refine br ?_ ?_<;>intro hb)|apply cS|apply gn|refine sd ?_|apply aw|(apply aF;(· decide +kernel))|refine bd ?_ ?_|(refine cd ?_;apply hp)|fail
  ·repeat' first|exact aw|refine iG ?_|refine hY (by decide +kernel) ?_
  refine Ib results231 ?_ ?_ ?_
  ·exact Hok.out
  ·simp
  ·exact h
 ·have e:d_ ⟨o,4,r⟩ n=⟨o++[m / 4],2,m % 4⟩:=by rw [hmm];rfl
  rw [e] at h
  have hv:m / 4<256:=ω
  have h3:ae.wrap (ae.wrap (1 * 2 ^ min 2 64) - 1)=3:=δ
  have h1:(m:Int).fdiv (2 ^ min 2 64)=((m / 4:Nat):Int):=lr m 2 ω
  have h2:ae.wrap (((ar ae.bits (m:Int) &&& ar ae.bits 3).toNat:Nat):Int)=((m % 4:Nat):Int):=zU (m:=m) (k:=2) ω ω
  simp only [bk] at h2
  have hp:=Es w0 X hX ad had i (o.map az) 6 8 2 m (m / 4) hv (by rw [bi];omega)
  have hok:=fun B=>G0 X hX (.own X.length 0) (.inr rfl) (i+1) B 6 8 252 2 ((m % 4:Nat):Int)
  simp only [aM,al,aj] at h
  generalize o.map az++[az (m / 4)]=B at h hp
  generalize o.map az=A at h hp ⊢
  have h:=h (.own X.length 0) (i+1) (.inr rfl)
  unfold eG at h hp hok ⊢
  simp only at h hp hok ⊢
  have Hok:=ab (hok B)
  clear hX had hn hr e hm hmm hv hlen hok
  refine eN func231 rfl ntmps231 fun hO=>?_
  repeat' first|refine st ?_|(refine ca ?_;apply hp)|(refine br ?_ ?_<;>intro hb)|apply cS|apply gn|refine sd ?_|apply aw|(apply aF;(· decide +kernel))|refine bd ?_ ?_|(refine cd ?_;apply hp)|fail
  ·repeat' first|exact aw|refine iG ?_|refine hY (by decide +kernel) ?_
  refine Ib results231 ?_ ?_ ?_
  ·exact Hok.out
  ·simp
  ·exact h
 ·have e:d_ ⟨o,2,r⟩ n=⟨o++[m],0,0⟩:=by rw [hmm];rfl
  rw [e] at h
  have hv:m<256:=ω
  have h3:ae.wrap (ae.wrap (1 * 2 ^ min 0 64) - 1)=0:=δ
  have h1:(m:Int).fdiv (2 ^ min 0 64)=(m:Int):=by have:=lr m 0 ω;simpa using this
  have h2:=zU (m:=m) (k:=0) ω ω
  have h2:ae.wrap (((ar ae.bits (m:Int) &&& ar ae.bits 0).toNat:Nat):Int)=0:=by rw [Nat.pow_zero,Nat.mod_one] at h2;exact h2
  simp only [bk] at h2
  have hp:=Es w0 X hX ad had i (o.map az) 6 8 0 m m hv (by rw [bi];omega)
  have hok:=fun B=>G0 X hX (.own X.length 0) (.inr rfl) (i+1) B 6 8 252 0 0
  simp only [aM,al,aj] at h
  generalize o.map az++[az m]=B at h hp
  generalize o.map az=A at h hp ⊢
  have h:=h (.own X.length 0) (i+1) (.inr rfl)
  unfold eG at h hp hok ⊢
  simp only at h hp hok ⊢
  have Hok:=ab (hok B)
  clear hX had hn hr e hm hmm hv hlen hok
  refine eN func231 rfl ntmps231 fun hO=>?_
  repeat' first|refine st ?_|(refine ca ?_;apply hp)|(refine br ?_ ?_<;>intro hb)|apply cS|apply gn|refine sd ?_|apply aw|(apply aF;(· decide +kernel))|refine bd ?_ ?_|(refine cd ?_;apply hp)|fail
  ·repeat' first|exact aw|refine iG ?_|refine hY (by decide +kernel) ?_
  refine Ib results231 ?_ ?_ ?_
  ·exact Hok.out
  ·simp
  ·exact h
theorem Bj(s:List UInt8)(hs:s.length≤1000000000)(R:Rt)(h:R (.ret (.str (iA s))) S):ao prog w0 251 [.str s,.str [61]] S R:=by
 refine ao.lib (vs:=[.string ⟨s.toArray⟩,.string ⟨#[61]⟩]) (v:=.str (iA s)) (c:=.string ⟨(iA s).toArray⟩) (Go.Proofs.enters_of func251 (by kernel_rfl) rfl) rfl rfl ?_ h
 intro w hb
 refine(Go.Proofs.Any.strings_TrimRight_one Go.Proofs.Tryz.lays162 ⟨s.toArray⟩ 61 δ w ?_).mono ?_
 ·show s.toArray.size≤_
  simp;omega
 ·rintro e w' ⟨rfl,rfl⟩
  refine⟨?_,pR _ _⟩
  rfl
def wU(v:Nat):AV × AV:=(.int .u8 ((bt v).toNat:Int),.int .i64 (v:Int))
def fx(k:Nat):List (AV × AV):=(bh k).map wU
theorem yN(k:Nat):fx (k+1)=fx k++[wU k]:=by
 unfold fx
 rw [List.range_succ,aM]
 rfl
theorem Db:∀ v,v<64→∀ u,u<v→(((bt v).toNat:Int)==((bt u).toNat:Int))=false:=by decide +kernel
theorem HZ{c:UInt8}{u:Nat}:kR (.int .u8 (c.toNat:Int)) (wU u).1=((c.toNat:Int)==((bt u).toNat:Int)):=rfl
theorem CP{k:Nat}(hk:k<64):(fx k).any (fun e=>kR (.int .u8 ((bt k).toNat:Int)) e.1)=false:=by
 rw [Jm]
 intro e he
 obtain⟨u,hu,rfl⟩:=aN.1 he
 rw [HZ,Db k hk u (dT.1 hu)]
 simp
theorem wR(k:Nat):((fx k).all fun e=>fh prog 5 e.1)=true:=by
 rw [aD]
 intro e he
 obtain⟨u,hu,rfl⟩:=aN.1 he
 unfold wU
 simp only [fh,go_sem]
theorem FC{k:Nat}(hk:k<64):jZ (.int .u8 ((bt k).toNat:Int)) (.int .i64 (k:Int)) (fx k)=fx (k+1):=by
 unfold jZ
 rw [CP hk,yN]
 rfl
theorem Mx(S:List aH){k:Nat}(hk:k<64):eC prog (S++[aH.mp false (fx k)]) 204 (.mown S.length) (.int .u8 ((bt k).toNat:Int)) (.int .i64 (k:Int))=some (S++[aH.mp false (fx (k+1))]):=by
 have hg:(S++[aH.mp false (fx k)])[S.length]? = some (aH.mp false (fx k)):=χ
 have hkk:fh prog 5 (.int .u8 ((bt k).toNat:Int))=true:=by simp only [fh,go_sem]
 unfold eC
 rw [show prog.underlying 204=some (.map 5 3) by simp only [go_sem]]
 simp only [hg,hkk,wR,FC hk,Bool.and_self,if_true]
 simp
theorem Cb(S:List aH)(fr:Nat→Bool)(d k:Nat):((fx k).map fun e=>(e.1,conv S fr d e.2))=fx k:=by
 refine(List.map_congr_left fun e he=>?_).trans (List.map_id _)
 obtain⟨u,hu,rfl⟩:=aN.1 he
 unfold wU
 cases d<;>rfl
theorem Ho(n k:Nat):(AV.mval (fx k)).lt n=true:=by
 have:∀ l:List Nat,nB n (l.map wU)=true:=by
  intro l
  induction l with
  | nil=>rfl
  | cons a l ih=>simp only [al,wU,nB,AV.lt,bP];exact ih
 exact this _
theorem EO(S:List aH)(k:Nat):conv (S++[aH.mp false (fx k)]) (fun a=>decide (S.length≤a)) 4 (.mown S.length)=.mval (fx k):=by
 have hg:(S++[aH.mp false (fx k)])[S.length]? = some (aH.mp false (fx k)):=χ
 have hd:decide (S.length≤S.length)=true:=χ
 rw [conv]
 simp only [AV.plain,hd,hg,aZ,if_false,if_true]
 rw [Cb]
theorem FG{P:Program}{S S':List aH}{ρ:Operand→AV}{t:TypeId}{m k v:Operand}(h:eC P S t (ρ m) (ρ k) (ρ v)=some S'):ew P S ρ (.mapUpdate t m k v)=some (.tup [],S'):=by
 simp only [ew,h]
theorem Ey(c:UInt8):(fx 64).find? (fun e=>kR (.int .u8 (c.toNat:Int)) e.1)=(ja c).map wU:=by
 have:∀ n:Nat,n<256→((bh 64).find? (fun u=>((az n).toNat:Int)==((bt u).toNat:Int)))=ja (az n):=by decide +kernel
 have h:=this c.toNat c.toNat_lt
 rw [cw] at h
 unfold fx
 rw [List.find?_map,← h]
 rfl
theorem G1(R:Rt)(h:R (.ret (.mval (fx 64))) S):ao prog w0 253 [] S R:=by
 refine eN func253 rfl ntmps253 fun hO=>?_
 refine ε0 ?_
 refine cD (fun (k:Nat) env S'=>k≤64∧env 1000000=.dfr []∧env 1=.mown S.length∧env 4=.int .i64 (k:Int)∧S'=S++[aH.mp false (fx k)]) (fun k=>64 - k) 0 ?_ ?_
 ·exact⟨ω,ss,ss,ss,rfl⟩
 ·rintro k env S' ⟨hk,e0,f1,f4,rfl⟩ IH
  have HI:=ab IH
  clear IH
  by_cases hlt:k<64
  ·have h1:decide ((k:Int)<64)=true:=κ
   have hw:ae.wrap ((k:Int)+1)=(k:Int)+1:=ai _ ω
   have hsg:([65,66,67,68,69,70,71,72,73,74,75,76,77,78,79,80,81,82,83,84,85,86,87,88,89,90,97,98,99,100,101,102,103,104,105,106,107,108,109,110,111,112,113,114,115,116,117,118,119,120,121,122,48,49,50,51,52,53,54,55,56,57,43,47]:List UInt8)[k]? = some (bt k):=by
    have:∀ v,v<64→jM[v]? = some (bt v):=by decide +kernel
    exact this k hlt
   have hup:=Mx S hlt
   have Hlt:=ab hlt
   clear hlt hk
   generalize hc:bt k=c at hsg hup
   generalize hM1:fx k=M at hup ⊢
   generalize hM:fx (k+1)=M1 at hup
   have HM:=ab hM
   clear hM hM1 hc
   have Hup:=ab hup
   clear hup
   refine ε0 ?_
   refine dM (v:=.tup []) (S':=S++[aH.mp false M1]) ss (FG Hup.out) ss ?_
   simp only [putA]
   refine ε0 ?_
   rw [← HM.out]
   refine HI.out (k+1) _ _ (by have:=Hlt.out;omega) ⟨Hlt.out, ?_, ?_, ?_,rfl⟩
   all_goals (simp only [go_sem, *];try rfl)
  ·have hk64:k=64:=ω
   subst hk64
   have h1:decide ((64:Int)<64)=false:=δ
   have hc64:((64:Nat):Int)=64:=rfl
   have hcv:=EO S 64
   have hlt4:=Ho S.length 64
   have hok:=iH S [aH.mp false (fx 64)]
   have htk:(S++[aH.mp false (fx 64)]).take S.length=S:=yB
   generalize fx 64=M at h hcv hlt4 hok htk ⊢
   clear hlt hk HI
   refine ε0 ?_
   exact uJ (vs:=[.mown S.length]) ss ss (by (simp only [go_sem, *,results253];try rfl)) hok hcv hlt4 htk h
theorem Aj{P:Program}{S:List aH}{ρ:Operand→AV}{t:TypeId}{x k:Operand}{ok:Bool}{y:AV}(h:js P S t (ρ x) (ρ k) ok=some y):ew P S ρ (.lookup t x k ok)=some (y,S):=by
 simp [ew,fZ,h]
def NX:Option Nat→AV
 | some v=>.tup [.int .i64 v,.bool true]
 | none=>.tup [.int .i64 0,.bool false]
theorem Rl(S:List aH)(c:UInt8):js prog S 204 (.mval (fx 64)) (.int .u8 (c.toNat:Int)) true=some (NX (ja c)):=by
 have hkk:fh prog 5 (.int .u8 (c.toNat:Int))=true:=by simp only [fh,go_sem]
 have hz:lg prog 3=some (.int .i64 0):=by simp only [go_sem]
 unfold js
 rw [show prog.underlying 204=some (.map 5 3) by simp only [go_sem]]
 simp only [m3]
 unfold AP
 simp only [hkk,wR,Bool.and_self,if_true,hz,Ey]
 cases ja c<;>rfl
def mf(V:List Nat):nQ:=V.foldl d_ ⟨[],0,0⟩
theorem xa(V:List Nat)(v:Nat):mf (V++[v])=d_ (mf V) v:=by unfold mf;rw [List.foldl_append];rfl
theorem xb(V:List Nat)(h:∀ v∈V,v<64):mf V=dV V:=by
 unfold mf
 rw [td V [] h]
 rfl
theorem Be(l:List UInt8)(c:UInt8):hH (l++[c])=(hH l).bind fun V=>(ja c).map fun v=>V++[v]:=by
 induction l with
 | nil=>cases h:ja c<;>simp [hH,h]
 | cons b l ih =>
  simp only [fQ,hH]
  cases hb:ja b with
  | none=>rfl
  | some v=>rw [ih];cases h1:hH l<;>cases h2:ja c<;>rfl
theorem wS:∀ {l:List UInt8}{k:Nat}{c:UInt8},l[k]? = some c→ja c=none→hH l=none
 | [],k,c,h,_=>by simp at h
 | b::l,0,c,h,hc=>by
  simp at h;subst h
  simp [hH,hc]
 | b::l,k+1,c,h,hc=>by
  have:=wS (l:=l) (by simpa using h) hc
  simp only [hH,this]
  cases ja b<;>rfl
theorem Ak:∀ (n:Nat) (V:List Nat),V.length=n→(∀ v∈V,v<64)→t8 (mf V)∧(mf V).out.length≤V.length
 | 0,V,hn,_=>by
  have:V=[]:=bW hn
  subst this
  unfold mf t8;simp
 | n+1,V,hn,h=>by
  obtain⟨W,v,rfl⟩:∃ W v,V=W++[v]:=by
   have hne:V≠[]:=by rintro rfl;simp at hn
   exact⟨V.dropLast,V.getLast hne,(wD hne).symm⟩
  obtain⟨h1,h2⟩:=Ak n W (by simpa using hn) (fun x hx=>h x (by simp [hx]))
  obtain⟨h3,h4⟩:=xN h1 (h v χ)
  rw [xa]
  refine⟨h3, ?_⟩
  rw [ah]
  simp only [aB,aI]
  omega
theorem C2(s:List UInt8):(iA s).length≤s.length:=by
 obtain⟨k,hk⟩:=rT s
 have:=congrArg jI hk
 simp at this
 omega
def Lh:Option (List UInt8)→AV
 | some c=>.tup [.str c,.int .i64 0]
 | none=>.tup [.str [],.int .i64 6]
theorem tc:∀ V:List Nat,(dV V).out.length=V.length * 3 / 4
 | []=>by simp [dV]
 | [_]=>by simp [dV]
 | [_,_]=>by simp [dV]
 | [_,_,_]=>by simp [dV]
 | a::b::c::d::r=>by
  have ih:=tc r
  simp only [dV,aB]
  omega
end Go.Proofs.YthdbijpefkapnaaGreatDoor
