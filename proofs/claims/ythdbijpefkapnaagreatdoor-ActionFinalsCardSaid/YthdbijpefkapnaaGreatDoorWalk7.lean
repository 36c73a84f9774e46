/- YthdbijpefkapnaaGreatDoorWalk7: a part of the proof. -/
import Derived.Test.YthdbijpefkapnaaGreatDoorWalk6
import Derived.Test.YthdbijpefkapnaaGreatDoorCore3
import Derived.Shelf.Strings.Repeat
import Derived.Test.YthdbijpefkapnaaGreatDoorShelf
import Derived.Shelf.Strings.SlTrimAscii
set_option linter.all false
set_option maxHeartbeats 40000000
open And renaming intro → a6
open BitVec renaming ofInt → ar, toNat_and → Ew, toNat_ofInt → cA, toNat_or → GV
open Bool renaming false_eq_true → cg, not_eq_false' → aE, not_eq_true' → aw, true_and → bL
open Function renaming comp_def → aU
open Go.IntKind renaming bits → bh, i64 → ae, u8 → aX
open Go.IntWalk renaming i64_in → ah, u8_in → di
open Go.Lib renaming hid → ab, repeatL → nT
open Go.RowKit.Below renaming refl → pg
open List renaming all_eq_true → aC, all_map → bu, any_eq_false → Eg, cons_append → ft, dropLast_concat_getLast → vF, eq_nil_of_length_eq_zero → bQ, getElem?_append_left → az, getElem?_append_right → aD, getElem?_eq_getElem → al, getElem?_eq_some_iff → af, getElem?_map → aI, getElem?_set_ne → bT, length → iz, length_append → ai, length_cons → aB, length_map → be, length_nil → aL, length_pos_iff → nt, map → bx, map_append → aY, map_cons → ap, map_nil → aq, mem_map → aM, mem_range → dI, range → ba, replicate → a7, replicate_succ → lL, set_append_left → qt, set_append_right → fb, take_add_one → sC, take_left → uc, take_length → bt, toList_toArray → bg
open Nat renaming and_two_pow_sub_one_eq_mod → yT, mod_lt → dY, pow_le_pow_right → gw, zero_le → bf
open UInt8 renaming ofNat → ay, ofNat_toNat → cj, toNat → aJ
namespace Go.Proofs.YthdbijpefkapnaaGreatDoor
open Go Go.Fen Go.Proofs.Tryz
attribute [local irreducible] aW WP aj dS jl cQ aV cV
set_option maxRecDepth 8000
variable (w0:World) (S:List aH)
theorem Ab(a g i:Nat)(ad:AV)(bs:List UInt8)(c:UInt8)(hb:MK S a g i ad bs)(hlen:(bs.length+1) * 1≤140737488355328)(R:Rt)
  (h:R (.ret .inil) ((S.set g (.arr 5 1 0 (i+1) ((bs++[c]).map jj))).set a (.cells [.own a 0,.sown g (i+1) (bs.length+1)] (some 90)))) :
  aj prog w0 192 [.own a 0,.int .u8 c.toNat] S R:=by
 obtain⟨ha,hg,had⟩:=hb
 have hal:=(af.1 ha).1
 have hgl:=(af.1 hg).1
 have hne:a≠g:=by rintro rfl;rw [ha] at hg;cases hg
 obtain⟨S1,hS1⟩:∃ S1,S.set a (.cells [.own a 0,.sown g i bs.length] (some 90))=S1:=⟨_,rfl⟩
 have hck:∀ R:gC→List aH→Prop,R (.ret (.tup [])) S1→aj prog w0 87 [.own a 0] S R:=by
  intro R hR
  rcases had with rfl|rfl
  ·exact si w0 S a _ ha (by simpa [AV.lt] using hgl) hal R (hS1▸hR)
  ·have:S.set a (.cells [.own a 0,.sown g i bs.length] (some 90))=S:=gk ha
   rw [this] at hS1
   exact sg w0 S a _ ha R (hS1▸hR)
 have h1:S1[a]? = some (.cells [.own a 0,.sown g i bs.length] (some 90)):=by rw [← hS1];simp [hal]
 have h2:S1[g]? = some (.arr 5 1 0 i (bs.map jj)):=by rw [← hS1,bT hne];exact hg
 have hl1:S1.length=S.length:=by rw [← hS1];simp
 have hbl:(bs.map jj).length=bs.length:=by simp
 have h3:∀ B,(S1.set g B)[a]? = some (.cells [.own a 0,.sown g i bs.length] (some 90)):=by intro B;rw [bT (Ne.symm hne)];exact h1
 have hg1:g<S1.length:=by rw [hl1];exact hgl
 have ha1:a<S1.length:=by rw [hl1];exact hal
 have h4:∀ B,(S1++[B])[g]? = some (.arr 5 1 0 i (bs.map jj)):=by intro B;rw [az hg1];exact h2
 have h5:∀ B,(S1++[B])[a]? = some (.cells [.own a 0,.sown g i bs.length] (some 90)):=by intro B;rw [az ha1];exact h1
 have h6:∀ B C,(S1++[B]).set g C=S1.set g C++[B]:=by intro B C;exact qt _ _ hg1
 have h7:∀ B C,(S1.set g C++[B])[a]? = some (.cells [.own a 0,.sown g i bs.length] (some 90)):=by intro B C;rw [az (by simpa using ha1)];exact h3 C
 have h8:∀ B C D,(S1.set g C++[B]).set a D=(S1.set g C).set a D++[B]:=by intro B C D;exact qt _ _ (by simpa using ha1)
 have hfin:∀ B C,(S1.set g B).set a C=(S.set g B).set a C:=by
  intro B C
  rw [← hS1,List.set_comm _ _ hne,List.set_set]
 rw [aY] at h
 have Hfin:=ab hfin
 have Hal:=ab (a6 hal hgl)
 have H:=ab h
 have Hl1:=ab hl1
 clear hg had hal hgl hne hS1 hfin h hg1 ha1 hl1
 refine eN func192 rfl ntmps192 fun hO=>?_
 repeat' first|apply fK|apply eg|apply dx|apply eh|apply fL|apply bU|apply fQ|apply bW|apply bJ|apply cE|apply bV|apply bI|apply bo|apply fO|(apply bp;(· rfl))|(apply cC;simp only [bg])|(apply dq;(· rfl);(· simp only [go_sem, *,bu,aU,cP];try rfl);(· rfl);simp only [putA])|(apply eo;simp only [putA])|apply cF|(apply cZ [];(· simp only [go_sem, *,bu,aU,cP];try rfl);(· rfl);(· simp only [go_sem, *,bu,aU,cP];try rfl);(· rfl);(iterate 2 (· simp only [go_sem, *,bu,aU,cP];try rfl));(first|apply hck);simp only [aV,putA])|(apply dr;(· simp only [go_sem, *,bu,aU,cP];try rfl);(· rfl);(· simp only [go_sem, *,bu,aU,cP];try rfl))|(apply dF;(iterate 2 (· simp only [go_sem, *,bu,aU,cP];try rfl));(· rfl);simp only [putA])|(apply bH;(· simp only [go_sem, *,bu,aU,cP];try rfl);(· rfl);simp only [putA])|(apply dt;(· simp only [go_sem, *,bu,aU,cP];try rfl))|(apply dw;(· simp only [go_sem, *,bu,aU,cP];try rfl))|(apply cD;(· rfl);(fail_if_success (focus (show _=some true;(· simp only [go_sem, *,bu,aU,cP];try rfl))));(· simp only [go_sem, *,bu,aU,cP];try rfl);all_goals (intro hb;try simp only [aw,aE] at hb))|(apply du;(· simp only [go_sem, *,bu,aU,cP];try rfl);all_goals (intro hb;try simp only [aw,aE] at hb))|fail
 refine zL ss ss (by (simp only [go_sem, *,results192];try rfl)) (nC (S2:=(S1.set g (.arr 5 1 0 (i+1) (bx jj bs++[jj c]))).set a (.cells [.own a 0,.sown g (i+1) (bs.length+1)] (some 90))) ?_ ?_) ss ss rfl ?_
 ·have hb4:ltL S.length (bx jj bs++[jj c])=true:=by rw [show bx jj bs++[jj c]=bx jj (bs++[c]) by simp];exact vz _ _
  rw [Hfin.out]
  refine bD.set (bD.set hO hb4) ?_
  have:=Hal.out;simp [aH.ltB,ltL,AV.lt,this.1,this.2]
 ·simpa using Hl1.out
 ·have e:((S1.set g (.arr 5 1 0 (i+1) (bx jj bs++[jj c]))).set a (.cells [.own a 0,.sown g (i+1) (bs.length+1)] (some 90))++[aH.arr 5 1 0 0 [jj c]]).take S.length=(S.set g (.arr 5 1 0 (i+1) (bx jj bs++[jj c]))).set a (.cells [.own a 0,.sown g (i+1) (bs.length+1)] (some 90)):=by
   rw [Hfin.out]
   have:=uc (l₁:=(S.set g (.arr 5 1 0 (i+1) (bx jj bs++[jj c]))).set a (.cells [.own a 0,.sown g (i+1) (bs.length+1)] (some 90))) (l₂:=[aH.arr 5 1 0 0 [jj c]])
   simpa using this
  refine cast ?_ H.out
  rw [show ([c].map jj)=[jj c] from rfl,← e]
  rfl
def er(X:Nat)(ad:AV)(i:Nat)(bs:List UInt8)(fr tz:Int)(hv:AV)(wt rs:Int):List aH :=
 [aH.cells [ad,.sown (X+6) i bs.length] (some 90),aH.cells [.int .i64 fr],aH.cells [.int .i64 tz],aH.cells [hv],aH.cells [.int .i64 wt],aH.cells [.int .i64 rs],aH.arr 5 1 0 i (bs.map jj)]
theorem LL(w0:World)(X:List aH)(ad:AV)(had:ad=.nilp∨ad=.own X.length 0)(i:Nat)(bs:List UInt8)(fr tz:Int)(hv:AV)(wt rs:Int)(c:UInt8)(hlen:bs.length≤1000000)(R:Rt)
  (h:R (.ret .inil) (X++er X.length (.own X.length 0) (i+1) (bs++[c]) fr tz hv wt rs)) :
  aj prog w0 192 [.own X.length 0,.int .u8 c.toNat] (X++er X.length ad i bs fr tz hv wt rs) R:=by
 refine Ab w0 _ X.length (X.length+6) i ad bs c ⟨by simp [er],by rw [aD (by omega)];simp [er],had⟩ (by omega) R ?_
 have e:((X++er X.length ad i bs fr tz hv wt rs).set (X.length+6) (.arr 5 1 0 (i+1) ((bs++[c]).map jj))).set X.length (.cells [.own X.length 0,.sown (X.length+6) (i+1) (bs.length+1)] (some 90)) =
   X++er X.length (.own X.length 0) (i+1) (bs++[c]) fr tz hv wt rs:=by
  unfold er
  rw [fb _ _ (by omega),fb _ _ (by omega)]
  simp
 rw [e]
 exact h
theorem FJ(X:List aH)(hX:bD X)(ad:AV)(had:ad=.nilp∨ad=.own X.length 0)(i:Nat)(bs:List UInt8)(fr tz:Int)(f:Nat)(wt rs:Int):bD (X++er X.length ad i bs fr tz (.fn (.func f) [] [.own X.length 0]) wt rs):=by
 refine bD.app hX ?_
 unfold er
 have h4:ltL (X.length+7) (bx jj bs)=true:=vz _ _
 rcases had with rfl|rfl<;>simp [aH.ltB,ltL,AV.lt,h4]
theorem zH(w0:World)(X:List aH)(hX:bD X)(ad:AV)(had:ad=.nilp∨ad=.own X.length 0)(i:Nat)(bs:List UInt8)(fr tz:Int)(wt rs:Int)(v:Nat)(hv:v<64)(hlen:bs.length≤1000000)(R:Rt)
  (h:R (.ret (.tup [])) (X++er X.length (.own X.length 0) (i+1) (bs++[bm v]) fr tz (.fn (.func 191) [] [.own X.length 0]) wt rs)) :
  aj prog w0 191 [.int .i64 v,.own X.length 0] (X++er X.length ad i bs fr tz (.fn (.func 191) [] [.own X.length 0]) wt rs) R:=by
 have hsg:([65,66,67,68,69,70,71,72,73,74,75,76,77,78,79,80,81,82,83,84,85,86,87,88,89,90,97,98,99,100,101,102,103,104,105,106,107,108,109,110,111,112,113,114,115,116,117,118,119,120,121,122,48,49,50,51,52,53,54,55,56,57,43,47]:List UInt8)[v]? = some (bm v):=by
  have:∀ v,v<64→jq[v]? = some (bm v):=by decide +kernel
  exact this v hv
 generalize bm v=c at h hsg
 have hw:=LL w0 X ad had i bs fr tz (.fn (.func 191) [] [.own X.length 0]) wt rs c hlen
 have hok:=FJ X hX (.own X.length 0) (.inr rfl) (i+1) (bs++[c]) fr tz 191 wt rs
 generalize hS:X++er X.length (.own X.length 0) (i+1) (bs++[c]) fr tz (.fn (.func 191) [] [.own X.length 0]) wt rs=S2 at *
 have hl2:S2.length=X.length+7:=by rw [← hS];simp [er]
 have hl1:(X++er X.length ad i bs fr tz (.fn (.func 191) [] [.own X.length 0]) wt rs).length=X.length+7:=by simp [er]
 have hgt:(X++er X.length ad i bs fr tz (.fn (.func 191) [] [.own X.length 0]) wt rs)[X.length]? = some (aH.cells [ad,.sown (X.length+6) i bs.length] (some 90)):=by simp [er]
 generalize X++er X.length ad i bs fr tz (.fn (.func 191) [] [.own X.length 0]) wt rs=S1 at *
 clear hX had hlen hS hv
 have Hok:=ab hok
 clear hok
 refine eN func191 rfl ntmps191 fun hO=>?_
 repeat' first|refine st ?_|(refine ca ?_;apply hw)|(refine br ?_ ?_<;>intro hb)|fail
 refine JI results191 ?_ ?_ ?_
 ·exact Hok.out
 ·rw [hl1,hl2]
 ·exact h
theorem rm(fr tz:Int)(f a:Nat)(hfr:ae.wrap fr=fr)(R:Rt)
  (h:R (.ret (.fn (.func 231) [] [.own (S.length+4) 0,.own S.length 0,.own (S.length+3) 0,.own (S.length+1) 0,.own (S.length+2) 0])) (S++[aH.cells [.int .i64 fr],aH.cells [.int .i64 tz],aH.cells [.fn (.func f) [] [.own a 0]],aH.cells [.int .i64 0],aH.cells [.int .i64 0]])) :
  aj prog w0 190 [.int .i64 fr,.int .i64 tz,.fn (.func f) [] [.own a 0]] S R:=by
 refine DC func190 rfl (by decide +kernel) (by rw [ntmps190];simp) (by rw [ntmps190];decide) (fun hO=>?_);rw [ntmps190]
 repeat' first|refine st ?_|(refine br ?_ ?_<;>intro hb)|fail
 (apply Dz;iterate 4 (· simp only [go_sem, *,results190];try rfl))
 exact h
theorem Mo{a b k:Nat}(ha:a<4294967296)(hk:k≤16)(hb:b<2 ^ k):ae.wrap (((ar ae.bits (ae.wrap ((a:Int) * 2 ^ min k 64)) ||| ar ae.bits (b:Int)).toNat:Nat):Int)=((a * 2 ^ k+b:Nat):Int):=by
 have h2:2 ^ k≤2 ^ 16:=gw (by omega) hk
 have h3:a * 2 ^ k≤4294967296 * 65536:=Nat.mul_le_mul (by omega) h2
 have e1:ae.wrap ((a:Int) * 2 ^ min k 64)=((a * 2 ^ k:Nat):Int):=by
  rw [Nat.min_eq_left (by omega),show ((a:Int) * 2 ^ k)=((a * 2 ^ k:Nat):Int) by simp]
  exact ah _ (by omega)
 rw [e1,GV]
 have e2:(ar ae.bits ((a * 2 ^ k:Nat):Int)).toNat=a * 2 ^ k:=by
  show (ar 64 _).toNat=_
  rw [cA];omega
 have e3:(ar ae.bits (b:Int)).toNat=b:=by
  show (ar 64 _).toNat=_
  rw [cA];omega
 rw [e2,e3]
 have e4:a * 2 ^ k ||| b=a * 2 ^ k+b:=by
  have:=Nat.shiftLeft_add_eq_or_of_lt hb a
  rw [Nat.shiftLeft_eq] at this
  exact this.symm
 rw [e4]
 exact ah _ (by omega)
theorem yN{m k:Nat}(hm:m<4294967296)(hk:k≤16):ae.wrap (((ar ae.bits (m:Int) &&& ar ae.bits ((2 ^ k - 1:Nat):Int)).toNat:Nat):Int)=((m % 2 ^ k:Nat):Int):=by
 rw [Ew]
 have h2:2 ^ k≤2 ^ 16:=gw (by omega) hk
 have h0:0<2 ^ k:=Nat.two_pow_pos k
 have e1:(ar ae.bits (m:Int)).toNat=m:=by
  show (ar 64 _).toNat=_
  rw [cA];omega
 have e2:(ar ae.bits ((2 ^ k - 1:Nat):Int)).toNat=2 ^ k - 1:=by
  show (ar 64 _).toNat=_
  rw [cA];omega
 rw [e1,e2,yT m k]
 have:=dY m h0
 exact ah _ (by omega)
theorem kT(m k:Nat)(hk:k≤16):(m:Int).fdiv (2 ^ min k 64)=((m / 2 ^ k:Nat):Int):=by
 rw [Nat.min_eq_left (by omega),Int.fdiv_eq_ediv_of_nonneg _ (by exact Int.le_of_lt (Int.pow_pos (by decide)))]
 simp
theorem L9(w0:World)(X:List aH)(hX:bD X)(ad:AV)(had:ad=.nilp∨ad=.own X.length 0)(i:Nat)(q:m_)(n:Nat)(hn:n<256)(hq:(q.wait=0∧q.rest=0)∨(q.wait=2∧q.rest<4)∨(q.wait=4∧q.rest<16))(hlen:q.out.length≤100000)(R:Rt)
  (h:∀ i',R (.ret (.tup [.int .i64 ((eD q n).wait:Nat),.int .i64 ((eD q n).rest:Nat)])) (X++er X.length (.own X.length 0) i' ((eD q n).out.map bm) 8 6 (.fn (.func 191) [] [.own X.length 0]) ((eD q n).wait:Nat) ((eD q n).rest:Nat))) :
  aj prog w0 231 [.int .i64 n,.own (X.length+5) 0,.own (X.length+1) 0,.own (X.length+4) 0,.own (X.length+2) 0,.own (X.length+3) 0] (X++er X.length ad i (q.out.map bm) 8 6 (.fn (.func 191) [] [.own X.length 0]) (q.wait:Nat) (q.rest:Nat)) R:=by
 obtain⟨o,w,r⟩:=q
 have w2:ae.wrap 2=2:=by decide
 have w4:ae.wrap 4=4:=by decide
 have w6:ae.wrap 6=6:=by decide
 have w8:ae.wrap 8=8:=by decide
 have w10:ae.wrap 10=10:=by decide
 have w12:ae.wrap 12=12:=by decide
 have wz:ae.wrap 0=0:=by decide
 have c0:((0:Nat):Int)=0:=rfl
 have c2:((2:Nat):Int)=2:=rfl
 have c4:((4:Nat):Int)=4:=rfl
 simp only at hq hlen
 obtain⟨m,hmm⟩:∃ m,m=r * 256+n:=⟨_,rfl⟩
 have hor:=Mo (a:=r) (b:=n) (k:=8) (by omega) (by omega) (by omega)
 have hmp:r * 2 ^ 8+n=m:=by omega
 rw [hmp] at hor
 simp only [bh] at hor
 clear hmp
 have hm:m<256 * 2 ^ w:=by rcases hq with⟨rfl,hr⟩|⟨rfl,hr⟩|⟨rfl,hr⟩<;>omega
 rcases hq with⟨rfl,hr⟩|⟨rfl,hr⟩|⟨rfl,hr⟩
 ·have e:eD ⟨o,0,r⟩ n=⟨o++[m / 4],2,m % 4⟩:=by rw [hmm];rfl
  rw [e] at h
  have hv:m / 4<64:=by omega
  have h1:=kT m 2 (by omega)
  have h2:=yN (m:=m) (k:=2) (by omega) (by omega)
  have h3:ae.wrap (ae.wrap (1 * 2 ^ min 2 64) - 1)=3:=by decide
  have h1:(m:Int).fdiv (2 ^ min 2 64)=((m / 4:Nat):Int):=h1
  have h2:ae.wrap (((ar ae.bits (m:Int) &&& ar ae.bits 3).toNat:Nat):Int)=((m % 4:Nat):Int):=h2
  simp only [bh] at h2
  have hp:=zH w0 X hX ad had i (o.map bm) 8 6 2 m (m / 4) hv (by rw [be];omega)
  have hok:=fun B=>FJ X hX (.own X.length 0) (.inr rfl) (i+1) B 8 6 191 2 ((m % 4:Nat):Int)
  simp only [aY,ap,aq] at h
  generalize o.map bm++[bm (m / 4)]=B at h hp
  generalize o.map bm=A at h hp ⊢
  have h:=h (i+1)
  unfold er at h hp hok ⊢
  simp only at h hp hok ⊢
  have Hok:=ab (hok B)
  clear hX had hn hr e hm hmm hv hlen hok
  refine eN func231 rfl ntmps231 fun hO=>?_
  repeat' first|refine st ?_|(refine ca ?_;apply hp)|(refine br ?_ ?_<;>intro hb)|apply cT|apply fZ|refine sd ?_|apply au|(apply aF;(· decide +kernel))|refine bd ?_ ?_|(refine cd ?_;apply hp)|fail
  ·repeat' first|exact au|refine ic ?_|refine gQ (by decide +kernel) ?_
  refine Gl results231 ?_ ?_ ?_
  ·exact Hok.out
  ·simp
  ·exact h
 ·have e:eD ⟨o,2,r⟩ n=⟨o++[m / 16],4,m % 16⟩:=by rw [hmm];rfl
  rw [e] at h
  have hv:m / 16<64:=by omega
  have h1:=kT m 4 (by omega)
  have h2:=yN (m:=m) (k:=4) (by omega) (by omega)
  have h3:ae.wrap (ae.wrap (1 * 2 ^ min 4 64) - 1)=15:=by decide
  have h1:(m:Int).fdiv (2 ^ min 4 64)=((m / 16:Nat):Int):=h1
  have h2:ae.wrap (((ar ae.bits (m:Int) &&& ar ae.bits 15).toNat:Nat):Int)=((m % 16:Nat):Int):=h2
  simp only [bh] at h2
  have hp:=zH w0 X hX ad had i (o.map bm) 8 6 4 m (m / 16) hv (by rw [be];omega)
  have hok:=fun B=>FJ X hX (.own X.length 0) (.inr rfl) (i+1) B 8 6 191 4 ((m % 16:Nat):Int)
  simp only [aY,ap,aq] at h
  generalize o.map bm++[bm (m / 16)]=B at h hp
  generalize o.map bm=A at h hp ⊢
  have h:=h (i+1)
  unfold er at h hp hok ⊢
  simp only at h hp hok ⊢
  have Hok:=ab (hok B)
  clear hX had hn hr e hm hmm hv hlen hok
  refine eN func231 rfl ntmps231 fun hO=>?_
  repeat' first|refine st ?_|(refine ca ?_;apply hp)|(refine br ?_ ?_<;>intro hb)|apply cT|apply fZ|refine sd ?_|apply au|(apply aF;(· decide +kernel))|refine bd ?_ ?_|(refine cd ?_;apply hp)|fail
  ·repeat' first|exact au|refine ic ?_|refine gQ (by decide +kernel) ?_
  refine Gl results231 ?_ ?_ ?_
  ·exact Hok.out
  ·simp
  ·exact h
 ·have e:eD ⟨o,4,r⟩ n=⟨o++[m / 64,m % 64],0,0⟩:=by rw [hmm];rfl
  rw [e] at h
  have hv:m / 64<64:=by omega
  have hv2:m % 64<64:=by omega
  have h1:=kT m 6 (by omega)
  have h2:=yN (m:=m) (k:=6) (by omega) (by omega)
  have h3:ae.wrap (ae.wrap (1 * 2 ^ min 6 64) - 1)=63:=by decide
  have h4:ae.wrap (ae.wrap (1 * 2 ^ min 0 64) - 1)=0:=by decide
  have h1:(m:Int).fdiv (2 ^ min 6 64)=((m / 64:Nat):Int):=h1
  have h2:ae.wrap (((ar ae.bits (m:Int) &&& ar ae.bits 63).toNat:Nat):Int)=((m % 64:Nat):Int):=h2
  simp only [bh] at h2
  obtain⟨u,hu⟩:∃ u,u=m % 64:=⟨_,rfl⟩
  have hu1:(u:Int).fdiv (2 ^ min 0 64)=(u:Int):=by have:=kT u 0 (by omega);simpa using this
  have hu2:=yN (m:=u) (k:=0) (by omega) (by omega)
  have hu2:ae.wrap (((ar ae.bits (u:Int) &&& ar ae.bits 0).toNat:Nat):Int)=0:=by rw [Nat.pow_zero,Nat.mod_one] at hu2;exact hu2
  simp only [bh] at hu2
  rw [← hu] at h2 h hv2
  have hp:=zH w0 X hX ad had i (o.map bm) 8 6 6 m (m / 64) hv (by rw [be];omega)
  have hp2:=zH w0 X hX (.own X.length 0) (.inr rfl) (i+1) (o.map bm++[bm (m / 64)]) 8 6 0 (u:Int) u hv2 (by rw [ai,be];simp;omega)
  have hok:=fun B=>FJ X hX (.own X.length 0) (.inr rfl) (i+1+1) B 8 6 191 0 0
  simp only [aY,ap,aq] at h
  rw [show bx bm o++[bm (m / 64),bm u]=(bx bm o++[bm (m / 64)])++[bm u] by simp] at h
  generalize hB:o.map bm++[bm (m / 64)]=B at h hp hp2
  generalize hC:B++[bm u]=C at h hp2
  generalize o.map bm=A at h hp ⊢
  have h:=h (i+1+1)
  unfold er at h hp hp2 hok ⊢
  simp only at h hp hp2 hok ⊢
  have Hok:=ab (hok C)
  clear hX had hn hr e hm hmm hv hv2 hlen hok hB hC hu
  refine eN func231 rfl ntmps231 fun hO=>?_
  repeat' first|refine st ?_|(refine ca ?_;first|apply hp|apply hp2)|(refine br ?_ ?_<;>intro hb)|apply cT|apply fZ|refine sd ?_|apply au|(apply aF;(· decide +kernel))|refine bd ?_ ?_|(refine cd ?_;first|apply hp|apply hp2)|fail
  ·repeat' first|exact au|refine ic ?_|refine gQ (by decide +kernel) ?_
  ·repeat' first|exact au|refine ic ?_|refine gQ (by decide +kernel) ?_
  refine Gl results231 ?_ ?_ ?_
  ·exact Hok.out
  ·simp
  ·exact h
theorem vw(a:Nat)(ad v:AV)(l:Nat)(ha:S[a]? = some (.cells [ad,v] (some 90)))(hv:v=.snil∧l=0∨(∃ g i,v=.sown g i l))(R:Rt)(h:R (.ret (.int .i64 l)) S):aj prog w0 195 [.own a 0] S R:=by
 rcases hv with⟨rfl,rfl⟩|⟨g,i,rfl⟩
 ·have h:R (.ret (.int .i64 0)) S:=h
  refine eN func195 rfl ntmps195 fun hO=>?_
  repeat' first|refine st ?_|(refine br ?_ ?_<;>intro hb)|fail
  refine fR results195 ?_
  exact h
 ·refine eN func195 rfl ntmps195 fun hO=>?_
  repeat' first|refine st ?_|(refine br ?_ ?_<;>intro hb)|fail
  refine fR results195 ?_
  exact h
theorem LR(w0:World)(X:List aH)(ad:AV)(had:ad=.nilp∨ad=.own X.length 0)(i:Nat)(bs:List UInt8)(fr tz:Int)(hv:AV)(wt rs:Int)(hpos:1≤bs.length)(R:Rt)
  (h:R (.ret (.str bs)) (X++[aH.cells [ad,.sown (X.length+6) i bs.length] (some 90),aH.cells [.int .i64 fr],aH.cells [.int .i64 tz],aH.cells [hv],aH.cells [.int .i64 wt],aH.cells [.int .i64 rs],.dead])) :
  aj prog w0 41 [.own X.length 0] (X++er X.length ad i bs fr tz hv wt rs) R:=by
 refine tX w0 _ X.length (X.length+6) i ad bs ⟨by simp [er],by rw [aD (by omega)];simp [er],had⟩ hpos R ?_
 unfold er
 rw [fb _ _ (by omega)]
 simpa using h
def gU(s:List UInt8)(k:Nat):m_:=((s.map aJ).take k).foldl eD ⟨[],0,0⟩
theorem rU{s:List UInt8}{k:Nat}{b:UInt8}(h:s[k]? = some b):gU s (k+1)=eD (gU s k) b.toNat:=by
 unfold gU
 have:(s.map aJ)[k]? = some b.toNat:=by rw [aI,h];rfl
 rw [sC,this,List.foldl_append];rfl
def Bq(q:m_):Prop:=(q.wait=0∧q.rest=0)∨(q.wait=2∧q.rest<4)∨(q.wait=4∧q.rest<16)
theorem AY{q:m_}{v:Nat}(h:Bq q)(hv:v<256):Bq (eD q v)∧(eD q v).out.length≤q.out.length+2:=by
 obtain⟨o,w,r⟩:=q
 unfold Bq eD at *
 simp only at *
 rcases h with⟨rfl,rfl⟩|⟨rfl,h⟩|⟨rfl,h⟩<;>simp<;>omega
theorem zF(s:List UInt8):∀ k,k≤s.length→Bq (gU s k)∧(gU s k).out.length≤2 * k
 | 0,_=>by unfold gU Bq;simp
 | k+1,h=>by
  obtain⟨h1,h2⟩:=zF s k (by omega)
  have hx:s[k]? = some (s[k]'(by omega)):=al (by omega)
  obtain⟨h3,h4⟩:=AY h1 (s[k]'(by omega)).toNat_lt
  rw [rU hx]
  exact⟨h3,by omega⟩
theorem A_(s:List UInt8):(ls (gU s s.length)).map bm=gh s:=by
 unfold gU gh
 rw [← DE _ (toNat_lt s)]
 unfold JL
 rw [show s.length=(s.map aJ).length by simp,bt]
theorem xa(s:List UInt8):(gh s).length=(8 * s.length+5) / 6:=by unfold gh;simp [mU]
theorem I4(n:Nat):(n+2) / 3 * 4=(8 * n+5) / 6+gD ((8 * n+5) / 6):=by unfold gD;omega
theorem Lu:Go.Proofs.Builder.Extra prog Go.Proofs.Tryz.lays105_ren where
 sizeBuilder:=by kernel_rfl
 liesBuilder:=by kernel_rfl
 t5:=Go.Proofs.Tryz.lays105.t5
 a5:=Go.Proofs.Tryz.lays105.a5
 z5:=Go.Proofs.Tryz.lays105.z5
 v5:=Go.Proofs.Tryz.lays105.v5
 infoByte:=by kernel_rfl
 cellsByte:=by kernel_rfl
 sizeByte:=by kernel_rfl
 neB5:=by decide +kernel
theorem zo(s:List UInt8)(n:Nat)(hn:n≤9223372036854775807)(hl:s.length * n≤140737488355328)(R:Rt)(h:R (.ret (.str (nT s n))) S):aj prog w0 193 [.str s,.int .i64 n] S R:=by
 refine aj.lib (vs:=[.string ⟨s.toArray⟩,.int .i64 n]) (v:=.str (nT s n)) (c:=.string ⟨(nT s n).toArray⟩) (Go.Proofs.enters_of func193 (by kernel_rfl) rfl) rfl rfl ?_ h
 intro w hb
 refine(Go.Proofs.Any.strings_Repeat Go.Proofs.Tryz.lays105 Lu ⟨s.toArray⟩ n w hn (by rw [show (⟨s.toArray⟩:ByteArray).size=s.length from rfl];exact hl)).mono ?_
 rintro e w' ⟨rfl,hw⟩
 exact⟨rfl,hw⟩
theorem xX(c:UInt8)(n:Nat):nT [c] n=a7 n c:=by
 induction n with
 | zero=>rfl
 | succ n ih=>rw [nT,ih,lL];rfl
theorem C_(R:Rt)(h:R (.ret (.tup [.str [],.int .i64 0])) S):aj prog w0 117 [.str []] S R:=by
 have hr:=fun S'=>rm w0 S' 8 6 191 S.length (by decide)
 have hbe:=fun S' ha=>so w0 S' S.length ha
 have hbl:=fun S' ha=>vw w0 S' S.length .nilp .snil 0 ha (.inl ⟨rfl,rfl⟩)
 have hsz:=fun S' (R:Rt) (h:R (.ret (.int .i64 0)) S')=>Hh w0 S' 0 (by decide) R h
 have hre:=fun S' (R:Rt) (h:R (.ret (.str [])) S')=>zo w0 S' [61] 0 (by decide) (by decide) R h
 have wz:ae.wrap 0=0:=by decide
 have h:R (.ret (.tup [.str [],.int .i64 0])) S:=h
 refine eN func117 rfl ntmps117 fun hO=>?_
 repeat' first|refine st ?_|(refine ca ?_;first|apply hr|(apply hbe;(· simp only [go_sem, *];try rfl))|(apply hbl;(· simp only [go_sem, *];try rfl))|apply hsz|apply hre)|(refine br ?_ ?_<;>intro hb)|apply cT|apply fZ|fail
 refine fR results117 ?_
 exact h
theorem FX(s:List UInt8)(hs:s.length≤4096)(R:Rt)(h:R (.ret (.tup [.str (hU s),.int .i64 0])) S):aj prog w0 117 [.str s] S R:=by
 by_cases hn:s=[]
 ·subst hn
  exact C_ w0 S R h
 have hpos:0<s.length:=nt.2 hn
 have hr:=fun S'=>rm w0 S' 8 6 191 S.length (by decide)
 have d0:decide ((4096:Int)<(s.length:Int))=false:=by simp;omega
 have H:=ab h
 clear hn h
 refine eN func117 rfl ntmps117 fun hO=>?_
 repeat' first|refine st ?_|(refine ca ?_;apply hr)|(refine br ?_ ?_<;>intro hb)|fail
 refine mL (a:=S.length) (j:=1) 5 1 ss ss (by decide) ?_
 simp only [go_sem, *]
 refine cW (fun (p:Nat × Nat × AV) env S'=>p.1≤s.length∧(p.2.2=.nilp∨p.2.2=.own S.length 0)∧env 1000000=.dfr []∧env 0=.str s∧env 4=.own S.length 0∧env 5=.fn (.func 231) [] [.own (S.length+5) 0,.own (S.length+1) 0,.own (S.length+4) 0,.own (S.length+2) 0,.own (S.length+3) 0] ∧
  env 6=.int .i64 ((gU s p.1).wait:Nat)∧env 7=.int .i64 ((gU s p.1).rest:Nat)∧env 15=.int .i64 s.length∧env 16=.int .i64 (p.1:Int) ∧
  S'=S++er S.length p.2.2 p.2.1 ((gU s p.1).out.map bm) 8 6 (.fn (.func 191) [] [.own S.length 0]) ((gU s p.1).wait:Nat) ((gU s p.1).rest:Nat)) (fun p=>s.length - p.1) (0,0,.nilp) ?_ ?_
 ·exact⟨bf _,.inl rfl,ss,ss,ss,ss,ss,ss,ss,ss,rfl⟩
 ·rintro⟨k,i,ad⟩ env S' ⟨hk,had,e0,f0,f4,f5,f6,f7,f15,f16,rfl⟩ IH
  simp only at hk had f6 f7 f16
  have HI:=ab IH
  obtain⟨hi1,hi2⟩:=zF s k hk
  clear IH
  by_cases hlt:k<s.length
  ·obtain⟨b,hx⟩:∃ b,s[k]? = some b:=⟨_,al hlt⟩
   have h1:decide ((k:Int)<(s.length:Int))=true:=by simpa using hlt
   have hw:ae.wrap ((k:Int)+1)=(k:Int)+1:=ah _ (by omega)
   have hwb:ae.wrap (b.toNat:Int)=(b.toNat:Int):=ah _ (by have:=b.toNat_lt;omega)
   have hg:=L9 w0 S hO ad had i (gU s k) b.toNat b.toNat_lt hi1 (by omega)
   rw [← rU hx] at hg
   generalize hp1:((gU s (k+1)).wait:Int)=p1 at hg
   generalize hp2:((gU s (k+1)).rest:Int)=p2 at hg
   generalize hp3:(gU s (k+1)).out.map bm=p3 at hg
   have Hp:=ab (a6 hp1 (a6 hp2 hp3))
   clear hp1 hp2 hp3
   unfold er at hg
   simp only at hg ⊢
   generalize ((gU s k).wait:Int)=q1 at *
   generalize ((gU s k).rest:Int)=q2 at *
   generalize (gU s k).out.map bm=q3 at *
   have Hlt:=ab hlt
   have HO:=ab hO
   clear hlt hk had hpos hs hi1 hi2 hO
   repeat' first|refine st ?_|(refine ca ?_;apply hg)|(refine br ?_ ?_<;>intro hb)|fail
   intro i'
   repeat' first|refine st ?_|(refine br ?_ ?_<;>intro hb)|fail
   obtain⟨hp1,hp2,hp3⟩:=Hp.out
   subst hp1 hp2 hp3
   refine HI.out (k+1,i',.own S.length 0) _ _ (by have:=Hlt.out;simp only;omega) ⟨Hlt.out,.inr rfl, ?_, ?_, ?_, ?_, ?_, ?_, ?_, ?_,rfl⟩
   all_goals (simp only [go_sem, *];try rfl)
  ·have hkl:k=s.length:=by omega
   subst hkl
   have h1:decide ((s.length:Int)<(s.length:Int))=false:=by simp
   have hea:=A_ s
   have hel:=xa s
   have hpe:=I4 s.length
   rw [← hel] at hpe
   have hh:=H.out
   unfold hU at hh
   have hsz:=fun S'=>Hh w0 S' s.length (by omega)
   rw [hpe] at hsz
   have hp4:gD (gh s).length≤3:=by unfold gD;omega
   have hre:=fun S'=>zo w0 S' [61] (gD (gh s).length) (by omega) (by simp;omega)
   simp only [xX] at hre
   have hwp:ae.wrap (((gh s).length+gD (gh s).length:Nat) - ((gh s).length:Int))=((gD (gh s).length:Nat):Int):=by rw [ah _ (by omega)];omega
   have hBl:1≤(gh s).length:=by omega
   have hle:(gh s).length+(a7 (gD (gh s).length) (61:UInt8)).length≤9223372036854775807:=by simp;omega
   generalize gU s s.length=q at *
   generalize gD (gh s).length=pd at *
   have hBl2:(gh s).length≤100000:=by omega
   clear hel hpe hs hpos hk HI H hp4
   obtain⟨o,w,r⟩:=q
   simp only at f6 f7 hi2 ⊢
   unfold Bq at hi1
   simp only at hi1
   generalize gh s=B at *
   rcases hi1 with⟨rfl,rfl⟩|⟨rfl,hr2⟩|⟨rfl,hr2⟩
   ·have e:o.map bm=B:=by simpa [ls] using hea
    rw [e]
    have hst:=LR w0 S ad had i B 8 6 (.fn (.func 191) [] [.own S.length 0]) 0 0 hBl
    have hln:=fun S' ha=>vw w0 S' S.length ad (.sown (S.length+6) i B.length) B.length ha (.inr ⟨_,_,rfl⟩)
    unfold er at hst ⊢
    have HO:=ab hO
    clear hea had hO hBl hBl2 hi2 e
    repeat' first|refine st ?_|(refine ca ?_;first|apply hst|apply hsz|(apply hln;(· simp only [go_sem, *];try rfl))|apply hre)|(refine br ?_ ?_<;>intro hb)|fail
    refine fR results117 ?_
    exact hh
   ·have e:o.map bm++[bm (r * 16)]=B:=by rw [← hea];simp [ls]
    obtain⟨v,hv⟩:∃ v,v=r * 16:=⟨_,rfl⟩
    rw [← hv] at e
    have hsh:ae.wrap ((r:Int) * 2 ^ min 4 64)=(v:Int):=by rw [show (2:Int) ^ min 4 64=16 by decide,ah _ (by omega)];omega
    have hwd:ae.wrap 4=4:=by decide
    have hc2:((2:Nat):Int)=2:=rfl
    have hsg:([65,66,67,68,69,70,71,72,73,74,75,76,77,78,79,80,81,82,83,84,85,86,87,88,89,90,97,98,99,100,101,102,103,104,105,106,107,108,109,110,111,112,113,114,115,116,117,118,119,120,121,122,48,49,50,51,52,53,54,55,56,57,43,47]:List UInt8)[v]? = some (bm v):=by
     have:∀ v,v<64→jq[v]? = some (bm v):=by decide +kernel
     exact this v (by omega)
    have hol:o.length≤1000000:=by have:=congrArg iz e;simp at this;omega
    generalize bm v=c at hsg e
    have hwb:=LL w0 S ad had i (o.map bm) 8 6 (.fn (.func 191) [] [.own S.length 0]) 2 (r:Int) c (by rw [be];exact hol)
    rw [e] at hwb
    have hst:=LR w0 S (.own S.length 0) (.inr rfl) (i+1) B 8 6 (.fn (.func 191) [] [.own S.length 0]) 2 (r:Int) hBl
    have hln:=fun S' ha=>vw w0 S' S.length (.own S.length 0) (.sown (S.length+6) (i+1) B.length) B.length ha (.inr ⟨_,_,rfl⟩)
    generalize o.map bm=A at *
    unfold er at hst hwb ⊢
    have HO:=ab hO
    clear hea had hO hBl hBl2 hi2 e hol hr2 hv
    repeat' first|refine st ?_|(refine ca ?_;first|apply hwb|apply hst|apply hsz|(apply hln;(· simp only [go_sem, *];try rfl))|apply hre)|(refine br ?_ ?_<;>intro hb)|fail
    refine fR results117 ?_
    exact hh
   ·have e:o.map bm++[bm (r * 4)]=B:=by rw [← hea];simp [ls]
    obtain⟨v,hv⟩:∃ v,v=r * 4:=⟨_,rfl⟩
    rw [← hv] at e
    have hsh:ae.wrap ((r:Int) * 2 ^ min 2 64)=(v:Int):=by rw [show (2:Int) ^ min 2 64=4 by decide,ah _ (by omega)];omega
    have hwd:ae.wrap 2=2:=by decide
    have hc2:((4:Nat):Int)=4:=rfl
    have hsg:([65,66,67,68,69,70,71,72,73,74,75,76,77,78,79,80,81,82,83,84,85,86,87,88,89,90,97,98,99,100,101,102,103,104,105,106,107,108,109,110,111,112,113,114,115,116,117,118,119,120,121,122,48,49,50,51,52,53,54,55,56,57,43,47]:List UInt8)[v]? = some (bm v):=by
     have:∀ v,v<64→jq[v]? = some (bm v):=by decide +kernel
     exact this v (by omega)
    have hol:o.length≤1000000:=by have:=congrArg iz e;simp at this;omega
    generalize bm v=c at hsg e
    have hwb:=LL w0 S ad had i (o.map bm) 8 6 (.fn (.func 191) [] [.own S.length 0]) 4 (r:Int) c (by rw [be];exact hol)
    rw [e] at hwb
    have hst:=LR w0 S (.own S.length 0) (.inr rfl) (i+1) B 8 6 (.fn (.func 191) [] [.own S.length 0]) 4 (r:Int) hBl
    have hln:=fun S' ha=>vw w0 S' S.length (.own S.length 0) (.sown (S.length+6) (i+1) B.length) B.length ha (.inr ⟨_,_,rfl⟩)
    generalize o.map bm=A at *
    unfold er at hst hwb ⊢
    have HO:=ab hO
    clear hea had hO hBl hBl2 hi2 e hol hr2 hv
    repeat' first|refine st ?_|(refine ca ?_;first|apply hwb|apply hst|apply hsz|(apply hln;(· simp only [go_sem, *];try rfl))|apply hre)|(refine br ?_ ?_<;>intro hb)|fail
    refine fR results117 ?_
    exact hh
theorem ofNat_toNat{v:Nat}(h:v<256):(ay v).toNat=v:=by simp;omega
theorem Dr(w0:World)(X:List aH)(hX:bD X)(ad:AV)(had:ad=.nilp∨ad=.own X.length 0)(i:Nat)(bs:List UInt8)(fr tz:Int)(wt rs:Int)(v:Nat)(hv:v<256)(hlen:bs.length≤1000000)(R:Rt)
  (h:R (.ret (.tup [])) (X++er X.length (.own X.length 0) (i+1) (bs++[ay v]) fr tz (.fn (.func 252) [] [.own X.length 0]) wt rs)) :
  aj prog w0 252 [.int .i64 v,.own X.length 0] (X++er X.length ad i bs fr tz (.fn (.func 252) [] [.own X.length 0]) wt rs) R:=by
 have hsg:aX.wrap (v:Int)=(((ay v).toNat:Nat):Int):=by rw [ofNat_toNat hv];exact di _ (by omega)
 generalize ay v=c at h hsg
 have hw:=LL w0 X ad had i bs fr tz (.fn (.func 252) [] [.own X.length 0]) wt rs c hlen
 have hok:=FJ X hX (.own X.length 0) (.inr rfl) (i+1) (bs++[c]) fr tz 252 wt rs
 generalize hS:X++er X.length (.own X.length 0) (i+1) (bs++[c]) fr tz (.fn (.func 252) [] [.own X.length 0]) wt rs=S2 at *
 have hl2:S2.length=X.length+7:=by rw [← hS];simp [er]
 have hl1:(X++er X.length ad i bs fr tz (.fn (.func 252) [] [.own X.length 0]) wt rs).length=X.length+7:=by simp [er]
 have hgt:(X++er X.length ad i bs fr tz (.fn (.func 252) [] [.own X.length 0]) wt rs)[X.length]? = some (aH.cells [ad,.sown (X.length+6) i bs.length] (some 90)):=by simp [er]
 generalize X++er X.length ad i bs fr tz (.fn (.func 252) [] [.own X.length 0]) wt rs=S1 at *
 clear hX had hlen hS hv
 have Hok:=ab hok
 clear hok
 refine eN func252 rfl ntmps252 fun hO=>?_
 repeat' first|refine st ?_|(refine ca ?_;apply hw)|(refine br ?_ ?_<;>intro hb)|fail
 refine JI results252 ?_ ?_ ?_
 ·exact Hok.out
 ·rw [hl1,hl2]
 ·exact h
theorem L_(w0:World)(X:List aH)(hX:bD X)(ad:AV)(had:ad=.nilp∨ad=.own X.length 0)(i:Nat)(q:m_)(n:Nat)(hn:n<64)(hq:sZ q)(hlen:q.out.length≤100000)(R:Rt)
  (h:∀ ad' i',(ad'=.nilp∨ad'=.own X.length 0)→R (.ret (.tup [.int .i64 ((dT q n).wait:Nat),.int .i64 ((dT q n).rest:Nat)])) (X++er X.length ad' i' ((dT q n).out.map ay) 6 8 (.fn (.func 252) [] [.own X.length 0]) ((dT q n).wait:Nat) ((dT q n).rest:Nat))) :
  aj prog w0 231 [.int .i64 n,.own (X.length+5) 0,.own (X.length+1) 0,.own (X.length+4) 0,.own (X.length+2) 0,.own (X.length+3) 0] (X++er X.length ad i (q.out.map ay) 6 8 (.fn (.func 252) [] [.own X.length 0]) (q.wait:Nat) (q.rest:Nat)) R:=by
 obtain⟨o,w,r⟩:=q
 unfold sZ at hq
 have wz0:ae.wrap 0=0:=by decide
 have w2:ae.wrap 2=2:=by decide
 have w4:ae.wrap 4=4:=by decide
 have w6:ae.wrap 6=6:=by decide
 have w8:ae.wrap 8=8:=by decide
 have w10:ae.wrap 10=10:=by decide
 have w12:ae.wrap 12=12:=by decide
 have c0:((0:Nat):Int)=0:=rfl
 have c2:((2:Nat):Int)=2:=rfl
 have c4:((4:Nat):Int)=4:=rfl
 have c6:((6:Nat):Int)=6:=rfl
 simp only at hq hlen
 obtain⟨m,hmm⟩:∃ m,m=r * 64+n:=⟨_,rfl⟩
 have hor:=Mo (a:=r) (b:=n) (k:=6) (by omega) (by omega) (by omega)
 have hmp:r * 2 ^ 6+n=m:=by omega
 rw [hmp] at hor
 simp only [bh] at hor
 clear hmp
 have hm:m<64 * 2 ^ w:=by rcases hq with⟨rfl,hr⟩|⟨rfl,hr⟩|⟨rfl,hr⟩|⟨rfl,hr⟩<;>omega
 rcases hq with⟨rfl,hr⟩|⟨rfl,hr⟩|⟨rfl,hr⟩|⟨rfl,hr⟩
 ·have e:dT ⟨o,0,r⟩ n=⟨o,6,m⟩:=by rw [hmm];rfl
  rw [e] at h
  have hok:=fun B=>FJ X hX ad had i B 6 8 252 6 (m:Int)
  have h:=h ad i had
  simp only at h ⊢
  generalize o.map ay=A at h ⊢
  unfold er at h hok ⊢
  have Hok:=ab (hok A)
  clear hX had hn hr e hm hmm hlen hok
  refine eN func231 rfl ntmps231 fun hO=>?_
  repeat' first|refine st ?_|(refine br ?_ ?_<;>intro hb)|apply cT|apply fZ|refine sd ?_|apply au|(apply aF;(· decide +kernel))|refine bd ?_ ?_|fail
  refine Gl results231 ?_ ?_ ?_
  ·exact Hok.out
  ·simp
  ·exact h
 ·have e:dT ⟨o,6,r⟩ n=⟨o++[m / 16],4,m % 16⟩:=by rw [hmm];rfl
  rw [e] at h
  have hv:m / 16<256:=by omega
  have h3:ae.wrap (ae.wrap (1 * 2 ^ min 4 64) - 1)=15:=by decide
  have h1:(m:Int).fdiv (2 ^ min 4 64)=((m / 16:Nat):Int):=kT m 4 (by omega)
  have h2:ae.wrap (((ar ae.bits (m:Int) &&& ar ae.bits 15).toNat:Nat):Int)=((m % 16:Nat):Int):=yN (m:=m) (k:=4) (by omega) (by omega)
  simp only [bh] at h2
  have hp:=Dr w0 X hX ad had i (o.map ay) 6 8 4 m (m / 16) hv (by rw [be];omega)
  have hok:=fun B=>FJ X hX (.own X.length 0) (.inr rfl) (i+1) B 6 8 252 4 ((m % 16:Nat):Int)
  simp only [aY,ap,aq] at h
  generalize o.map ay++[ay (m / 16)]=B at h hp
  generalize o.map ay=A at h hp ⊢
  have h:=h (.own X.length 0) (i+1) (.inr rfl)
  unfold er at h hp hok ⊢
  simp only at h hp hok ⊢
  have Hok:=ab (hok B)
  clear hX had hn hr e hm hmm hv hlen hok
  refine eN func231 rfl ntmps231 fun hO=>?_
  repeat' first|refine st ?_|(refine ca ?_;apply hp)|(refine br ?_ ?_<;>intro hb)|apply cT|apply fZ|refine sd ?_|apply au|(apply aF;(· decide +kernel))|refine bd ?_ ?_|(refine cd ?_;apply hp)|fail
  ·repeat' first|exact au|refine ic ?_|refine gQ (by decide +kernel) ?_
  refine Gl results231 ?_ ?_ ?_
  ·exact Hok.out
  ·simp
  ·exact h
 ·have e:dT ⟨o,4,r⟩ n=⟨o++[m / 4],2,m % 4⟩:=by rw [hmm];rfl
  rw [e] at h
  have hv:m / 4<256:=by omega
  have h3:ae.wrap (ae.wrap (1 * 2 ^ min 2 64) - 1)=3:=by decide
  have h1:(m:Int).fdiv (2 ^ min 2 64)=((m / 4:Nat):Int):=kT m 2 (by omega)
  have h2:ae.wrap (((ar ae.bits (m:Int) &&& ar ae.bits 3).toNat:Nat):Int)=((m % 4:Nat):Int):=yN (m:=m) (k:=2) (by omega) (by omega)
  simp only [bh] at h2
  have hp:=Dr w0 X hX ad had i (o.map ay) 6 8 2 m (m / 4) hv (by rw [be];omega)
  have hok:=fun B=>FJ X hX (.own X.length 0) (.inr rfl) (i+1) B 6 8 252 2 ((m % 4:Nat):Int)
  simp only [aY,ap,aq] at h
  generalize o.map ay++[ay (m / 4)]=B at h hp
  generalize o.map ay=A at h hp ⊢
  have h:=h (.own X.length 0) (i+1) (.inr rfl)
  unfold er at h hp hok ⊢
  simp only at h hp hok ⊢
  have Hok:=ab (hok B)
  clear hX had hn hr e hm hmm hv hlen hok
  refine eN func231 rfl ntmps231 fun hO=>?_
  repeat' first|refine st ?_|(refine ca ?_;apply hp)|(refine br ?_ ?_<;>intro hb)|apply cT|apply fZ|refine sd ?_|apply au|(apply aF;(· decide +kernel))|refine bd ?_ ?_|(refine cd ?_;apply hp)|fail
  ·repeat' first|exact au|refine ic ?_|refine gQ (by decide +kernel) ?_
  refine Gl results231 ?_ ?_ ?_
  ·exact Hok.out
  ·simp
  ·exact h
 ·have e:dT ⟨o,2,r⟩ n=⟨o++[m],0,0⟩:=by rw [hmm];rfl
  rw [e] at h
  have hv:m<256:=by omega
  have h3:ae.wrap (ae.wrap (1 * 2 ^ min 0 64) - 1)=0:=by decide
  have h1:(m:Int).fdiv (2 ^ min 0 64)=(m:Int):=by have:=kT m 0 (by omega);simpa using this
  have h2:=yN (m:=m) (k:=0) (by omega) (by omega)
  have h2:ae.wrap (((ar ae.bits (m:Int) &&& ar ae.bits 0).toNat:Nat):Int)=0:=by rw [Nat.pow_zero,Nat.mod_one] at h2;exact h2
  simp only [bh] at h2
  have hp:=Dr w0 X hX ad had i (o.map ay) 6 8 0 m m hv (by rw [be];omega)
  have hok:=fun B=>FJ X hX (.own X.length 0) (.inr rfl) (i+1) B 6 8 252 0 0
  simp only [aY,ap,aq] at h
  generalize o.map ay++[ay m]=B at h hp
  generalize o.map ay=A at h hp ⊢
  have h:=h (.own X.length 0) (i+1) (.inr rfl)
  unfold er at h hp hok ⊢
  simp only at h hp hok ⊢
  have Hok:=ab (hok B)
  clear hX had hn hr e hm hmm hv hlen hok
  refine eN func231 rfl ntmps231 fun hO=>?_
  repeat' first|refine st ?_|(refine ca ?_;apply hp)|(refine br ?_ ?_<;>intro hb)|apply cT|apply fZ|refine sd ?_|apply au|(apply aF;(· decide +kernel))|refine bd ?_ ?_|(refine cd ?_;apply hp)|fail
  ·repeat' first|exact au|refine ic ?_|refine gQ (by decide +kernel) ?_
  refine Gl results231 ?_ ?_ ?_
  ·exact Hok.out
  ·simp
  ·exact h
theorem Aj(s:List UInt8)(hs:s.length≤1000000000)(R:Rt)(h:R (.ret (.str (hZ s))) S):aj prog w0 251 [.str s,.str [61]] S R:=by
 refine aj.lib (vs:=[.string ⟨s.toArray⟩,.string ⟨#[61]⟩]) (v:=.str (hZ s)) (c:=.string ⟨(hZ s).toArray⟩) (Go.Proofs.enters_of func251 (by kernel_rfl) rfl) rfl rfl ?_ h
 intro w hb
 refine(Go.Proofs.Any.strings_TrimRight_one Go.Proofs.Tryz.lays162 ⟨s.toArray⟩ 61 (by decide) w ?_).mono ?_
 ·show s.toArray.size≤_
  simp;omega
 ·rintro e w' ⟨rfl,rfl⟩
  refine⟨?_,pg _ _⟩
  rfl
def vU(v:Nat):AV × AV:=(.int .u8 ((bm v).toNat:Int),.int .i64 (v:Int))
def fh(k:Nat):List (AV × AV):=(ba k).map vU
theorem xN(k:Nat):fh (k+1)=fh k++[vU k]:=by
 unfold fh
 rw [List.range_succ,aY]
 rfl
theorem Cg:∀ v,v<64→∀ u,u<v→(((bm v).toNat:Int)==((bm u).toNat:Int))=false:=by decide +kernel
theorem Gb{c:UInt8}{u:Nat}:ku (.int .u8 (c.toNat:Int)) (vU u).1=((c.toNat:Int)==((bm u).toNat:Int)):=rfl
theorem BU{k:Nat}(hk:k<64):(fh k).any (fun e=>ku (.int .u8 ((bm k).toNat:Int)) e.1)=false:=by
 rw [Eg]
 intro e he
 obtain⟨u,hu,rfl⟩:=aM.1 he
 rw [Gb,Cg k hk u (dI.1 hu)]
 simp
theorem vR(k:Nat):((fh k).all fun e=>eX prog 5 e.1)=true:=by
 rw [aC]
 intro e he
 obtain⟨u,hu,rfl⟩:=aM.1 he
 unfold vU
 simp only [eX,go_sem]
theorem Ez{k:Nat}(hk:k<64):jC (.int .u8 ((bm k).toNat:Int)) (.int .i64 (k:Int)) (fh k)=fh (k+1):=by
 unfold jC
 rw [BU hk,xN]
 rfl
theorem KX(S:List aH){k:Nat}(hk:k<64):ei prog (S++[aH.mp false (fh k)]) 204 (.mown S.length) (.int .u8 ((bm k).toNat:Int)) (.int .i64 (k:Int))=some (S++[aH.mp false (fh (k+1))]):=by
 have hg:(S++[aH.mp false (fh k)])[S.length]? = some (aH.mp false (fh k)):=by simp
 have hkk:eX prog 5 (.int .u8 ((bm k).toNat:Int))=true:=by simp only [eX,go_sem]
 unfold ei
 rw [show prog.underlying 204=some (.map 5 3) by simp only [go_sem]]
 simp only [hg,hkk,vR,Ez hk,Bool.and_self,if_true]
 simp
theorem Be(S:List aH)(fr:Nat→Bool)(d k:Nat):((fh k).map fun e=>(e.1,conv S fr d e.2))=fh k:=by
 refine(List.map_congr_left fun e he=>?_).trans (List.map_id _)
 obtain⟨u,hu,rfl⟩:=aM.1 he
 unfold vU
 cases d<;>rfl
theorem F1(n k:Nat):(AV.mval (fh k)).lt n=true:=by
 have:∀ l:List Nat,mR n (l.map vU)=true:=by
  intro l
  induction l with
  | nil=>rfl
  | cons a l ih=>simp only [ap,vU,mR,AV.lt,bL];exact ih
 exact this _
theorem DM(S:List aH)(k:Nat):conv (S++[aH.mp false (fh k)]) (fun a=>decide (S.length≤a)) 4 (.mown S.length)=.mval (fh k):=by
 have hg:(S++[aH.mp false (fh k)])[S.length]? = some (aH.mp false (fh k)):=by simp
 have hd:decide (S.length≤S.length)=true:=by simp
 rw [conv]
 simp only [AV.plain,hd,hg,cg,if_false,if_true]
 rw [Be]
theorem EC{P:Program}{S S':List aH}{ρ:Operand→AV}{t:TypeId}{m k v:Operand}(h:ei P S t (ρ m) (ρ k) (ρ v)=some S'):ee P S ρ (.mapUpdate t m k v)=some (.tup [],S'):=by
 simp only [ee,h]
theorem Dv(c:UInt8):(fh 64).find? (fun e=>ku (.int .u8 (c.toNat:Int)) e.1)=(iC c).map vU:=by
 have:∀ n:Nat,n<256→((ba 64).find? (fun u=>((ay n).toNat:Int)==((bm u).toNat:Int)))=iC (ay n):=by decide +kernel
 have h:=this c.toNat c.toNat_lt
 rw [cj] at h
 unfold fh
 rw [List.find?_map,← h]
 rfl
theorem FK(R:Rt)(h:R (.ret (.mval (fh 64))) S):aj prog w0 253 [] S R:=by
 refine eN func253 rfl ntmps253 fun hO=>?_
 repeat' first|refine st ?_|(refine br ?_ ?_<;>intro hb)|fail
 refine cW (fun (k:Nat) env S'=>k≤64∧env 1000000=.dfr []∧env 1=.mown S.length∧env 4=.int .i64 (k:Int)∧S'=S++[aH.mp false (fh k)]) (fun k=>64 - k) 0 ?_ ?_
 ·exact⟨by omega,ss,ss,ss,rfl⟩
 ·rintro k env S' ⟨hk,e0,f1,f4,rfl⟩ IH
  have HI:=ab IH
  clear IH
  by_cases hlt:k<64
  ·have h1:decide ((k:Int)<64)=true:=by simp;omega
   have hw:ae.wrap ((k:Int)+1)=(k:Int)+1:=ah _ (by omega)
   have hsg:([65,66,67,68,69,70,71,72,73,74,75,76,77,78,79,80,81,82,83,84,85,86,87,88,89,90,97,98,99,100,101,102,103,104,105,106,107,108,109,110,111,112,113,114,115,116,117,118,119,120,121,122,48,49,50,51,52,53,54,55,56,57,43,47]:List UInt8)[k]? = some (bm k):=by
    have:∀ v,v<64→jq[v]? = some (bm v):=by decide +kernel
    exact this k hlt
   have hup:=KX S hlt
   have Hlt:=ab hlt
   clear hlt hk
   generalize hc:bm k=c at hsg hup
   generalize hM1:fh k=M at hup ⊢
   generalize hM:fh (k+1)=M1 at hup
   have HM:=ab hM
   clear hM hM1 hc
   have Hup:=ab hup
   clear hup
   repeat' first|refine st ?_|(refine br ?_ ?_<;>intro hb)|fail
   refine dF (v:=.tup []) (S':=S++[aH.mp false M1]) ss (EC Hup.out) ss ?_
   simp only [putA]
   repeat' first|refine st ?_|(refine br ?_ ?_<;>intro hb)|fail
   rw [← HM.out]
   refine HI.out (k+1) _ _ (by have:=Hlt.out;omega) ⟨Hlt.out, ?_, ?_, ?_,rfl⟩
   all_goals (simp only [go_sem, *];try rfl)
  ·have hk64:k=64:=by omega
   subst hk64
   have h1:decide ((64:Int)<64)=false:=by decide
   have hc64:((64:Nat):Int)=64:=rfl
   have hcv:=DM S 64
   have hlt4:=F1 S.length 64
   have hok:=ie S [aH.mp false (fh 64)]
   have htk:(S++[aH.mp false (fh 64)]).take S.length=S:=uc
   generalize fh 64=M at h hcv hlt4 hok htk ⊢
   clear hlt hk HI
   repeat' first|refine st ?_|(refine br ?_ ?_<;>intro hb)|fail
   exact zL (vs:=[.mown S.length]) ss ss (by (simp only [go_sem, *,results253];try rfl)) hok hcv hlt4 htk h
theorem zb{P:Program}{S:List aH}{ρ:Operand→AV}{t:TypeId}{x k:Operand}{ok:Bool}{y:AV}(h:iZ P S t (ρ x) (ρ k) ok=some y):ee P S ρ (.lookup t x k ok)=some (y,S):=by
 simp [ee,fM,h]
def Mw:Option Nat→AV
 | some v=>.tup [.int .i64 v,.bool true]
 | none=>.tup [.int .i64 0,.bool false]
theorem P2(S:List aH)(c:UInt8):iZ prog S 204 (.mval (fh 64)) (.int .u8 (c.toNat:Int)) true=some (Mw (iC c)):=by
 have hkk:eX prog 5 (.int .u8 (c.toNat:Int))=true:=by simp only [eX,go_sem]
 have hz:kM prog 3=some (.int .i64 0):=by simp only [go_sem]
 unfold iZ
 rw [show prog.underlying 204=some (.map 5 3) by simp only [go_sem]]
 simp only [my]
 unfold zJ
 simp only [hkk,vR,Bool.and_self,if_true,hz,Dv]
 cases iC c<;>rfl
def lG(V:List Nat):m_:=V.foldl dT ⟨[],0,0⟩
theorem v8(V:List Nat)(v:Nat):lG (V++[v])=dT (lG V) v:=by unfold lG;rw [List.foldl_append];rfl
theorem v_(V:List Nat)(h:∀ v∈V,v<64):lG V=dK V:=by
 unfold lG
 rw [sc V [] h]
 rfl
theorem Ae(l:List UInt8)(c:UInt8):gN (l++[c])=(gN l).bind fun V=>(iC c).map fun v=>V++[v]:=by
 induction l with
 | nil=>cases h:iC c<;>simp [gN,h]
 | cons b l ih =>
  simp only [ft,gN]
  cases hb:iC b with
  | none=>rfl
  | some v=>rw [ih];cases h1:gN l<;>cases h2:iC c<;>rfl
theorem vS:∀ {l:List UInt8}{k:Nat}{c:UInt8},l[k]? = some c→iC c=none→gN l=none
 | [],k,c,h,_=>by simp at h
 | b::l,0,c,h,hc=>by
  simp at h;subst h
  simp [gN,hc]
 | b::l,k+1,c,h,hc=>by
  have:=vS (l:=l) (by simpa using h) hc
  simp only [gN,this]
  cases iC b<;>rfl
theorem zd:∀ (n:Nat) (V:List Nat),V.length=n→(∀ v∈V,v<64)→sZ (lG V)∧(lG V).out.length≤V.length
 | 0,V,hn,_=>by
  have:V=[]:=bQ hn
  subst this
  unfold lG sZ;simp
 | n+1,V,hn,h=>by
  obtain⟨W,v,rfl⟩:∃ W v,V=W++[v]:=by
   have hne:V≠[]:=by rintro rfl;simp at hn
   exact⟨V.dropLast,V.getLast hne,(vF hne).symm⟩
  obtain⟨h1,h2⟩:=zd n W (by simpa using hn) (fun x hx=>h x (by simp [hx]))
  obtain⟨h3,h4⟩:=wO h1 (h v (by simp))
  rw [v8]
  refine⟨h3, ?_⟩
  rw [ai]
  simp only [aB,aL]
  omega
theorem B7(s:List UInt8):(hZ s).length≤s.length:=by
 obtain⟨k,hk⟩:=q_ s
 have:=congrArg iz hk
 simp at this
 omega
def JQ:Option (List UInt8)→AV
 | some c=>.tup [.str c,.int .i64 0]
 | none=>.tup [.str [],.int .i64 6]
theorem sb:∀ V:List Nat,(dK V).out.length=V.length * 3 / 4
 | []=>by simp [dK]
 | [_]=>by simp [dK]
 | [_,_]=>by simp [dK]
 | [_,_,_]=>by simp [dK]
 | a::b::c::d::r=>by
  have ih:=sb r
  simp only [dK,aB]
  omega
end Go.Proofs.YthdbijpefkapnaaGreatDoor
