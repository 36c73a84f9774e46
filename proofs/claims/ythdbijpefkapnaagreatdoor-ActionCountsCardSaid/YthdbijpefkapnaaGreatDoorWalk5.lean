/- YthdbijpefkapnaaGreatDoorWalk5. Texts of the proof of a law about texts: a layer of abstract values above the worlds, the types, the walks of the functions that the law reaches, the law and its card. Own work of an AI agent. -/
import Derived.Test.YthdbijpefkapnaaGreatDoorWalk4
import Derived.Shelf.Strings.SlTrimAscii
import Derived.Test.YthdbijpefkapnaaGreatDoorShelf
import Derived.Test.YthdbijpefkapnaaGreatDoorCore3
import Derived.Shelf.Strings.Count
set_option linter.all false
set_option maxHeartbeats 40000000
open And renaming intro → cD
open BitVec renaming ofInt → aD, toNat_and → EV, toNat_ofInt → cV, toNat_or → HT
open Bool renaming false_eq_true → du, not_eq_false' → aA, not_eq_true' → ax, true_and → cA
open Go.IntKind renaming bits → bz, i64 → ar, u64 → bc, u8 → bo
open Go.IntWalk renaming i64_in → ay, u64_in → hJ, u8_in → eo
open Go.Lib renaming hid → au, indexByte → dx
open Go.RowKit.Below renaming refl → l7
open Int renaming le_refl → EU
open List renaming all_eq_true → aF, cons_append → al, count_cons_of_ne → zH, dropLast_concat_getLast → wl, eq_nil_of_length_eq_zero → cL, getElem?_append_right → aM, getElem?_eq_getElem → aC, getElem?_eq_some_iff → aw, length → lz, length_append → ab, length_cons → ah, length_map → bB, length_nil → aj, length_pos_iff → mq, map_append → co, map_cons → aG, map_nil → aL, mem_cons → dj, mem_map → aX, mem_range → cB, nil_append → ap, range → bJ, replicate → bL, replicate_succ → mn, set_append_right → ef, size_toArray → fj, take → qR, take_add_one → pI, take_length → bQ, take_of_length_le → dW, toList_toArray → aU
open Nat renaming and_two_pow_sub_one_eq_mod → zD, le_refl → bg, mod_lt → fa, pow_le_pow_right → gx, reduceAdd → gK, zero_le → bI
open UInt8 renaming ofNat → aN, ofNat_toNat → cz
namespace Go.Proofs.YthdbijpefkapnaaGreatDoor
open Go Go.Fen
attribute [local irreducible] ba WP az dI ie cU aR cw
set_option maxRecDepth 8000
theorem ofNat_toNat {v:Nat} (h:v<256):(aN v).toNat=v:=by simp;omega
theorem DV (w0:World) (X:List aH) (hX:bP X) (ad:AV) (had:ad=.nilp∨ad=.own X.length 0) (i:Nat) (bs:List UInt8) (fr tz:Int) (wt rs:Int) (v:Nat) (hv:v<256) (hlen:bs.length≤1000000) (R:Rt)
  (h:R (.ret (.tup [])) (X++eK X.length (.own X.length 0) (i+1) (bs++[aN v]) fr tz (.fn (.func 252) [] [.own X.length 0]) wt rs)) :
  az Tryz.prog w0 252 [.int .i64 v,.own X.length 0] (X++eK X.length ad i bs fr tz (.fn (.func 252) [] [.own X.length 0]) wt rs) R:=by
 have hsg:bo.wrap (v:Int)=(((aN v).toNat:Nat):Int):=by rw [ofNat_toNat hv];exact eo _ (by omega)
 generalize aN v=c at h hsg
 have hw:=Mx w0 X ad had i bs fr tz (.fn (.func 252) [] [.own X.length 0]) wt rs c hlen
 have hok:=Gb X hX (.own X.length 0) (.inr rfl) (i+1) (bs++[c]) fr tz 252 wt rs
 generalize hS:X++eK X.length (.own X.length 0) (i+1) (bs++[c]) fr tz (.fn (.func 252) [] [.own X.length 0]) wt rs=S2 at *
 have hl2:S2.length=X.length+7:=by rw [← hS];simp [eK]
 have hl1:(X++eK X.length ad i bs fr tz (.fn (.func 252) [] [.own X.length 0]) wt rs).length=X.length+7:=by simp [eK]
 have hgt:(X++eK X.length ad i bs fr tz (.fn (.func 252) [] [.own X.length 0]) wt rs)[X.length]? = some (aH.cells [ad,.sown (X.length+6) i bs.length] (some 90)):=by simp [eK]
 generalize X++eK X.length ad i bs fr tz (.fn (.func 252) [] [.own X.length 0]) wt rs=S1 at *
 clear hX had hlen hS hv
 have Hok:=au hok
 clear hok
 refine eN Tryz.func252 rfl Tryz.ntmps252 fun hO=>?_
 repeat' first | refine st ?_ | (refine ca ?_;apply hw) | (refine br ?_ ?_<;>intro hb) | fail
 refine GQ Tryz.results252 ?_ ?_ ?_
 ·exact Hok.out
 ·rw [hl1,hl2]
 ·exact h
theorem MQ (w0:World) (X:List aH) (hX:bP X) (ad:AV) (had:ad=.nilp∨ad=.own X.length 0) (i:Nat) (q:nM) (n:Nat) (hn:n<64) (hq:zz q) (hlen:q.out.length≤100000) (R:Rt)
  (h:∀ ad' i',(ad'=.nilp∨ad'=.own X.length 0)→R (.ret (.tup [.int .i64 ((eC q n).wait:Nat),.int .i64 ((eC q n).rest:Nat)])) (X++eK X.length ad' i' ((eC q n).out.map aN) 6 8 (.fn (.func 252) [] [.own X.length 0]) ((eC q n).wait:Nat) ((eC q n).rest:Nat))) :
  az Tryz.prog w0 231 [.int .i64 n,.own (X.length+5) 0,.own (X.length+1) 0,.own (X.length+4) 0,.own (X.length+2) 0,.own (X.length+3) 0] (X++eK X.length ad i (q.out.map aN) 6 8 (.fn (.func 252) [] [.own X.length 0]) (q.wait:Nat) (q.rest:Nat)) R:=by
 obtain⟨o,w,r⟩:=q
 unfold zz at hq
 have wz0:ar.wrap 0=0:=by decide
 have w2:ar.wrap 2=2:=by decide
 have w4:ar.wrap 4=4:=by decide
 have w6:ar.wrap 6=6:=by decide
 have w8:ar.wrap 8=8:=by decide
 have w10:ar.wrap 10=10:=by decide
 have w12:ar.wrap 12=12:=by decide
 have c0:((0:Nat):Int)=0:=rfl
 have c2:((2:Nat):Int)=2:=rfl
 have c4:((4:Nat):Int)=4:=rfl
 have c6:((6:Nat):Int)=6:=rfl
 simp only at hq hlen
 obtain⟨m,hmm⟩:∃ m,m=r * 64+n:=⟨_,rfl⟩
 have hor:=M_ (a:=r) (b:=n) (k:=6) (by omega) (by omega) (by omega)
 have hmp:r * 2 ^ 6+n=m:=by omega
 rw [hmp] at hor
 simp only [bz] at hor
 clear hmp
 have hm:m<64 * 2 ^ w:=by rcases hq with⟨rfl,hr⟩ | ⟨rfl,hr⟩ | ⟨rfl,hr⟩ | ⟨rfl,hr⟩<;>omega
 rcases hq with⟨rfl,hr⟩ | ⟨rfl,hr⟩ | ⟨rfl,hr⟩ | ⟨rfl,hr⟩
 ·have e:eC ⟨o,0,r⟩ n=⟨o,6,m⟩:=by rw [hmm];rfl
  rw [e] at h
  have hok:=fun B=>Gb X hX ad had i B 6 8 252 6 (m:Int)
  have h:=h ad i had
  simp only at h ⊢
  generalize o.map aN=A at h ⊢
  unfold eK at h hok ⊢
  have Hok:=au (hok A)
  clear hX had hn hr e hm hmm hlen hok
  refine eN Tryz.func231 rfl Tryz.ntmps231 fun hO=>?_
  repeat' first | refine st ?_ | (refine br ?_ ?_<;>intro hb) | apply cP | apply eg | refine sd ?_ | apply aE | (apply aO;(· decide +kernel)) | refine bd ?_ ?_ | fail
  refine GP Tryz.results231 ?_ ?_ ?_
  ·exact Hok.out
  ·simp
  ·exact h
 ·have e:eC ⟨o,6,r⟩ n=⟨o++[m / 16],4,m % 16⟩:=by rw [hmm];rfl
  rw [e] at h
  have hv:m / 16<256:=by omega
  have h3:ar.wrap (ar.wrap (1 * 2 ^ min 4 64) - 1)=15:=by decide
  have h1:(m:Int).fdiv (2 ^ min 4 64)=((m / 16:Nat):Int):=li m 4 (by omega)
  have h2:ar.wrap (((aD ar.bits (m:Int) &&& aD ar.bits 15).toNat:Nat):Int)=((m % 16:Nat):Int):=zu (m:=m) (k:=4) (by omega) (by omega)
  simp only [bz] at h2
  have hp:=DV w0 X hX ad had i (o.map aN) 6 8 4 m (m / 16) hv (by rw [bB];omega)
  have hok:=fun B=>Gb X hX (.own X.length 0) (.inr rfl) (i+1) B 6 8 252 4 ((m % 16:Nat):Int)
  simp only [co,aG,aL] at h
  generalize o.map aN++[aN (m / 16)]=B at h hp
  generalize o.map aN=A at h hp ⊢
  have h:=h (.own X.length 0) (i+1) (.inr rfl)
  unfold eK at h hp hok ⊢
  simp only at h hp hok ⊢
  have Hok:=au (hok B)
  clear hX had hn hr e hm hmm hv hlen hok
  refine eN Tryz.func231 rfl Tryz.ntmps231 fun hO=>?_
  repeat' first | refine st ?_ | (refine ca ?_;apply hp) | (refine br ?_ ?_<;>intro hb) | apply cP | apply eg | refine sd ?_ | apply aE | (apply aO;(· decide +kernel)) | refine bd ?_ ?_ | (refine cd ?_;apply hp) | fail
  ·repeat' first | exact aE | refine gI ?_ | refine ij (by decide +kernel) ?_
  refine GP Tryz.results231 ?_ ?_ ?_
  ·exact Hok.out
  ·simp
  ·exact h
 ·have e:eC ⟨o,4,r⟩ n=⟨o++[m / 4],2,m % 4⟩:=by rw [hmm];rfl
  rw [e] at h
  have hv:m / 4<256:=by omega
  have h3:ar.wrap (ar.wrap (1 * 2 ^ min 2 64) - 1)=3:=by decide
  have h1:(m:Int).fdiv (2 ^ min 2 64)=((m / 4:Nat):Int):=li m 2 (by omega)
  have h2:ar.wrap (((aD ar.bits (m:Int) &&& aD ar.bits 3).toNat:Nat):Int)=((m % 4:Nat):Int):=zu (m:=m) (k:=2) (by omega) (by omega)
  simp only [bz] at h2
  have hp:=DV w0 X hX ad had i (o.map aN) 6 8 2 m (m / 4) hv (by rw [bB];omega)
  have hok:=fun B=>Gb X hX (.own X.length 0) (.inr rfl) (i+1) B 6 8 252 2 ((m % 4:Nat):Int)
  simp only [co,aG,aL] at h
  generalize o.map aN++[aN (m / 4)]=B at h hp
  generalize o.map aN=A at h hp ⊢
  have h:=h (.own X.length 0) (i+1) (.inr rfl)
  unfold eK at h hp hok ⊢
  simp only at h hp hok ⊢
  have Hok:=au (hok B)
  clear hX had hn hr e hm hmm hv hlen hok
  refine eN Tryz.func231 rfl Tryz.ntmps231 fun hO=>?_
  repeat' first | refine st ?_ | (refine ca ?_;apply hp) | (refine br ?_ ?_<;>intro hb) | apply cP | apply eg | refine sd ?_ | apply aE | (apply aO;(· decide +kernel)) | refine bd ?_ ?_ | (refine cd ?_;apply hp) | fail
  ·repeat' first | exact aE | refine gI ?_ | refine ij (by decide +kernel) ?_
  refine GP Tryz.results231 ?_ ?_ ?_
  ·exact Hok.out
  ·simp
  ·exact h
 ·have e:eC ⟨o,2,r⟩ n=⟨o++[m],0,0⟩:=by rw [hmm];rfl
  rw [e] at h
  have hv:m<256:=by omega
  have h3:ar.wrap (ar.wrap (1 * 2 ^ min 0 64) - 1)=0:=by decide
  have h1:(m:Int).fdiv (2 ^ min 0 64)=(m:Int):=by have:=li m 0 (by omega);simpa using this
  have h2:=zu (m:=m) (k:=0) (by omega) (by omega)
  have h2:ar.wrap (((aD ar.bits (m:Int) &&& aD ar.bits 0).toNat:Nat):Int)=0:=by rw [Nat.pow_zero,Nat.mod_one] at h2;exact h2
  simp only [bz] at h2
  have hp:=DV w0 X hX ad had i (o.map aN) 6 8 0 m m hv (by rw [bB];omega)
  have hok:=fun B=>Gb X hX (.own X.length 0) (.inr rfl) (i+1) B 6 8 252 0 0
  simp only [co,aG,aL] at h
  generalize o.map aN++[aN m]=B at h hp
  generalize o.map aN=A at h hp ⊢
  have h:=h (.own X.length 0) (i+1) (.inr rfl)
  unfold eK at h hp hok ⊢
  simp only at h hp hok ⊢
  have Hok:=au (hok B)
  clear hX had hn hr e hm hmm hv hlen hok
  refine eN Tryz.func231 rfl Tryz.ntmps231 fun hO=>?_
  repeat' first | refine st ?_ | (refine ca ?_;apply hp) | (refine br ?_ ?_<;>intro hb) | apply cP | apply eg | refine sd ?_ | apply aE | (apply aO;(· decide +kernel)) | refine bd ?_ ?_ | (refine cd ?_;apply hp) | fail
  ·repeat' first | exact aE | refine gI ?_ | refine ij (by decide +kernel) ?_
  refine GP Tryz.results231 ?_ ?_ ?_
  ·exact Hok.out
  ·simp
  ·exact h
theorem AW (w0:World) (S:List aH) (s:List UInt8) (hs:s.length≤1000000000) (R:Rt) (h:R (.ret (.str (iK s))) S):az Tryz.prog w0 251 [.str s,.str [61]] S R:=by
 refine az.lib (vs:=[.string ⟨s.toArray⟩,.string ⟨#[61]⟩]) (v:=.str (iK s)) (c:=.string ⟨(iK s).toArray⟩) (Go.Proofs.enters_of Tryz.func251 (by kernel_rfl) rfl) rfl rfl ?_ h
 intro w hb
 refine(Go.Proofs.Any.strings_TrimRight_one Go.Proofs.Tryz.lays162 ⟨s.toArray⟩ 61 (by decide) w ?_).mono ?_
 ·show s.toArray.size≤_
  simp;omega
 ·rintro e w' ⟨rfl,rfl⟩
  refine⟨?_,l7 _ _⟩
  rfl
def wF (v:Nat):AV × AV:=(.int .u8 ((bO v).toNat:Int),.int .i64 (v:Int))
def fV (k:Nat):List (AV × AV):=(bJ k).map wF
theorem yr (k:Nat):fV (k+1)=fV k++[wF k]:=by
 unfold fV
 rw [List.range_succ,co]
 rfl
theorem CW:∀ v,v<64→∀ u,u<v→(((bO v).toNat:Int)==((bO u).toNat:Int))=false:=by decide +kernel
theorem GF {c:UInt8}{u:Nat}:kR (.int .u8 (c.toNat:Int)) (wF u).1=((c.toNat:Int)==((bO u).toNat:Int)):=rfl
theorem Cy {k:Nat} (hk:k<64):(fV k).any (fun e=>kR (.int .u8 ((bO k).toNat:Int)) e.1)=false:=by
 rw [List.any_eq_false]
 intro e he
 obtain⟨u,hu,rfl⟩:=aX.1 he
 rw [GF,CW k hk u (cB.1 hu)]
 simp
theorem wB (k:Nat):((fV k).all fun e=>fI Tryz.prog 5 e.1)=true:=by
 rw [aF]
 intro e he
 obtain⟨u,hu,rfl⟩:=aX.1 he
 unfold wF
 simp only [fI,go_sem]
theorem EY {k:Nat} (hk:k<64):j6 (.int .u8 ((bO k).toNat:Int)) (.int .i64 (k:Int)) (fV k)=fV (k+1):=by
 unfold j6
 rw [Cy hk,yr]
 rfl
theorem LN (S:List aH){k:Nat} (hk:k<64):eF Tryz.prog (S++[aH.mp false (fV k)]) 204 (.mown S.length) (.int .u8 ((bO k).toNat:Int)) (.int .i64 (k:Int))=some (S++[aH.mp false (fV (k+1))]):=by
 have hg:(S++[aH.mp false (fV k)])[S.length]? = some (aH.mp false (fV k)):=by simp
 have hkk:fI Tryz.prog 5 (.int .u8 ((bO k).toNat:Int))=true:=by simp only [fI,go_sem]
 unfold eF
 rw [show Tryz.prog.underlying 204=some (.map 5 3) by simp only [go_sem]]
 simp only [hg,hkk,wB,EY hk,Bool.and_self,if_true]
 simp
theorem BT (S:List aH) (fr:Nat→Bool) (d k:Nat):((fV k).map fun e=>(e.1,conv S fr d e.2))=fV k:=by
 refine(List.map_congr_left fun e he=>?_).trans (List.map_id _)
 obtain⟨u,hu,rfl⟩:=aX.1 he
 unfold wF
 cases d<;>rfl
theorem Gs (n k:Nat):(AV.mval (fV k)).lt n=true:=by
 have:∀ l:List Nat,nC n (l.map wF)=true:=by
  intro l
  induction l with
  | nil=>rfl
  | cons a l ih=>simp only [aG,wF,nC,AV.lt,cA];exact ih
 exact this _
theorem Ek (S:List aH) (k:Nat):conv (S++[aH.mp false (fV k)]) (fun a=>decide (S.length≤a)) 4 (.mown S.length)=.mval (fV k):=by
 have hg:(S++[aH.mp false (fV k)])[S.length]? = some (aH.mp false (fV k)):=by simp
 have hd:decide (S.length≤S.length)=true:=by simp
 rw [conv]
 simp only [AV.plain,hd,hg,du,if_false,if_true]
 rw [BT]
theorem E5 {P:Program}{S S':List aH}{ρ:Operand→AV}{t:TypeId}{m k v:Operand} (h:eF P S t (ρ m) (ρ k) (ρ v)=some S'):en P S ρ (.mapUpdate t m k v)=some (.tup [],S'):=by
 simp only [en,h]
theorem D1 (c:UInt8):(fV 64).find? (fun e=>kR (.int .u8 (c.toNat:Int)) e.1)=(mu c).map wF:=by
 have:∀ n:Nat,n<256→((bJ 64).find? (fun u=>((aN n).toNat:Int)==((bO u).toNat:Int)))=mu (aN n):=by decide +kernel
 have h:=this c.toNat c.toNat_lt
 rw [cz] at h
 unfold fV
 rw [List.find?_map,← h]
 rfl
theorem Gc (w0:World) (S:List aH) (R:Rt) (h:R (.ret (.mval (fV 64))) S):az Tryz.prog w0 253 [] S R:=by
 refine eN Tryz.func253 rfl Tryz.ntmps253 fun hO=>?_
 repeat' first | refine st ?_ | (refine br ?_ ?_<;>intro hb) | fail
 refine dX (fun (k:Nat) env S'=>k≤64∧env 1000000=.dfr []∧env 1=.mown S.length∧env 4=.int .i64 (k:Int)∧S'=S++[aH.mp false (fV k)]) (fun k=>64 - k) 0 ?_ ?_
 ·exact⟨by omega,ss,ss,ss,rfl⟩
 ·rintro k env S' ⟨hk,e0,f1,f4,rfl⟩ IH
  have HI:=au IH
  clear IH
  by_cases hlt:k<64
  ·have h1:decide ((k:Int)<64)=true:=by simp;omega
   have hw:ar.wrap ((k:Int)+1)=(k:Int)+1:=ay _ (by omega)
   have hsg:([65,66,67,68,69,70,71,72,73,74,75,76,77,78,79,80,81,82,83,84,85,86,87,88,89,90,97,98,99,100,101,102,103,104,105,106,107,108,109,110,111,112,113,114,115,116,117,118,119,120,121,122,48,49,50,51,52,53,54,55,56,57,43,47]:List UInt8)[k]? = some (bO k):=by
    have:∀ v,v<64→pU[v]? = some (bO v):=by decide +kernel
    exact this k hlt
   have hup:=LN S hlt
   have Hlt:=au hlt
   clear hlt hk
   generalize hc:bO k=c at hsg hup
   generalize hM1:fV k=M at hup ⊢
   generalize hM:fV (k+1)=M1 at hup
   have HM:=au hM
   clear hM hM1 hc
   have Hup:=au hup
   clear hup
   repeat' first | refine st ?_ | (refine br ?_ ?_<;>intro hb) | fail
   refine cF (v:=.tup []) (S':=S++[aH.mp false M1]) ss (E5 Hup.out) ss ?_
   simp only [putA]
   repeat' first | refine st ?_ | (refine br ?_ ?_<;>intro hb) | fail
   rw [← HM.out]
   refine HI.out (k+1) _ _ (by have:=Hlt.out;omega) ⟨Hlt.out, ?_, ?_, ?_,rfl⟩
   all_goals (simp only [go_sem, *];try rfl)
  ·have hk64:k=64:=by omega
   subst hk64
   have h1:decide ((64:Int)<64)=false:=by decide
   have hc64:((64:Nat):Int)=64:=rfl
   have hcv:=Ek S 64
   have hlt4:=Gs S.length 64
   have hok:=iR S [aH.mp false (fV 64)]
   have htk:(S++[aH.mp false (fV 64)]).take S.length=S:=List.take_left
   generalize fV 64=M at h hcv hlt4 hok htk ⊢
   clear hlt hk HI
   repeat' first | refine st ?_ | (refine br ?_ ?_<;>intro hb) | fail
   exact Au (vs:=[.mown S.length]) ss ss (by (simp only [go_sem, *,Tryz.results253];try rfl)) hok hcv hlt4 htk h
theorem zQ {P:Program}{S:List aH}{ρ:Operand→AV}{t:TypeId}{x k:Operand}{ok:Bool}{y:AV} (h:ju P S t (ρ x) (ρ k) ok=some y):en P S ρ (.lookup t x k ok)=some (y,S):=by
 simp [en,gw,h]
def Ng:Option Nat→AV
 | some v=>.tup [.int .i64 v,.bool true]
 | none=>.tup [.int .i64 0,.bool false]
theorem QU (S:List aH) (c:UInt8):ju Tryz.prog S 204 (.mval (fV 64)) (.int .u8 (c.toNat:Int)) true=some (Ng (mu c)):=by
 have hkk:fI Tryz.prog 5 (.int .u8 (c.toNat:Int))=true:=by simp only [fI,go_sem]
 have hz:lf Tryz.prog 3=some (.int .i64 0):=by simp only [go_sem]
 unfold ju
 rw [show Tryz.prog.underlying 204=some (.map 5 3) by simp only [go_sem]]
 simp only [m5]
 unfold Aq
 simp only [hkk,wB,Bool.and_self,if_true,hz,D1]
 cases mu c<;>rfl
def mg (V:List Nat):nM:=V.foldl eC ⟨[],0,0⟩
theorem wM (V:List Nat) (v:Nat):mg (V++[v])=eC (mg V) v:=by unfold mg;rw [List.foldl_append];rfl
theorem wN (V:List Nat) (h:∀ v∈V,v<64):mg V=d9 V:=by
 unfold mg
 rw [xK V [] h]
 rfl
theorem AO (l:List UInt8) (c:UInt8):ig (l++[c])=(ig l).bind fun V=>(mu c).map fun v=>V++[v]:=by
 induction l with
 | nil=>cases h:mu c<;>simp [ig,h]
 | cons b l ih =>
  simp only [al,ig]
  cases hb:mu b with
  | none=>rfl
  | some v=>rw [ih];cases h1:ig l<;>cases h2:mu c<;>rfl
theorem wC:∀ {l:List UInt8}{k:Nat}{c:UInt8},l[k]? = some c→mu c=none→ig l=none
 | [],k,c,h,_=>by simp at h
 | b::l,0,c,h,hc=>by
  simp at h;subst h
  simp [ig,hc]
 | b::l,k+1,c,h,hc=>by
  have:=wC (l:=l) (by simpa using h) hc
  simp only [ig,this]
  cases mu b<;>rfl
theorem zR:∀ (n:Nat) (V:List Nat),V.length=n→(∀ v∈V,v<64)→zz (mg V)∧(mg V).out.length≤V.length
 | 0,V,hn,_=>by
  have:V=[]:=cL hn
  subst this
  unfold mg zz;simp
 | n+1,V,hn,h=>by
  obtain⟨W,v,rfl⟩:∃ W v,V=W++[v]:=by
   have hne:V≠[]:=by rintro rfl;simp at hn
   exact⟨V.dropLast,V.getLast hne,(wl hne).symm⟩
  obtain⟨h1,h2⟩:=zR n W (by simpa using hn) (fun x hx=>h x (by simp [hx]))
  obtain⟨h3,h4⟩:=DT h1 (h v (by simp))
  rw [wM]
  refine⟨h3, ?_⟩
  rw [ab]
  simp only [ah,aj]
  omega
theorem CI (s:List UInt8):(iK s).length≤s.length:=by
 obtain⟨k,hk⟩:=rL s
 have:=congrArg lz hk
 simp at this
 omega
def KB:Option (List UInt8)→AV
 | some c=>.tup [.str c,.int .i64 0]
 | none=>.tup [.str [],.int .i64 6]
theorem sQ:∀ V:List Nat,(d9 V).out.length=V.length * 3 / 4
 | []=>by simp [d9]
 | [_]=>by simp [d9]
 | [_,_]=>by simp [d9]
 | [_,_,_]=>by simp [d9]
 | a::b::c::d::r=>by
  have ih:=sQ r
  simp only [d9,ah]
  omega
theorem Gp (w0:World) (S:List aH) (s:List UInt8) (hs:s.length≤8192) (R:Rt) (h:R (.ret (KB (sR s))) S):az Tryz.prog w0 209 [.str s] S R:=by
 have hr:=fun S'=>rZ w0 S' 6 8 252 S.length (by decide)
 have d0:decide ((8192:Int)<(s.length:Int))=false:=by simp;omega
 have htr:=fun S'=>AW w0 S' s (by omega)
 have hva:=Gc w0
 have htl:=CI s
 have hmm:(s.length:Int).tmod 4=((s.length % 4:Nat):Int):=gm s.length 4
 have hwd:ar.wrap ((s.length:Int) - ((iK s).length:Int))=((s.length - (iK s).length:Nat):Int):=by rw [ay _ (by omega)];omega
 have hlk:=fun S' c=>QU S' c
 unfold sR at h
 have bad:((iK s).length≠s.length∧(s.length % 4≠0∨2<s.length - (iK s).length))→R (.ret (.tup [.str [],.int .i64 6])) S:=fun e=>by rw [if_pos e] at h;exact h
 have good:¬ ((iK s).length≠s.length∧(s.length % 4≠0∨2<s.length - (iK s).length))→R (.ret (KB (match ig (iK s) with | none=>none | some V=>if (d9 V).wait=6∨(d9 V).rest≠0 then none else some ((d9 V).out.map aN)))) S:=fun e=>by rw [if_neg e] at h;exact h
 clear h
 generalize iK s=t at *
 generalize fV 64=M at hva hlk
 have Bad:=au bad
 have Good:=au good
 have Hlk:=au hlk
 have Hva:=au hva
 have Hr:=au hr
 clear bad good hlk hva hr
 by_cases hA:(t.length≠s.length∧(s.length % 4≠0∨2<s.length - t.length))
 ·have hh:=Bad.out hA
  have b1:((t.length:Int) != (s.length:Int))=true:=by rw [bne_iff_ne];omega
  by_cases hB:s.length % 4=0
  ·have b2:(((s.length % 4:Nat):Int) != 0)=false:=by rw [hB];rfl
   have b3:decide ((2:Int)<((s.length - t.length:Nat):Int))=true:=by simp;omega
   clear hA hB hs htl
   refine eN Tryz.func209 rfl Tryz.ntmps209 fun hO=>?_
   repeat' first | refine st ?_ | (refine ca ?_;apply htr) | (refine br ?_ ?_<;>intro hb) | fail
   refine fR Tryz.results209 ?_
   exact hh
  ·have b2:(((s.length % 4:Nat):Int) != 0)=true:=by rw [bne_iff_ne];omega
   clear hA hB hs htl
   refine eN Tryz.func209 rfl Tryz.ntmps209 fun hO=>?_
   repeat' first | refine st ?_ | (refine ca ?_;apply htr) | (refine br ?_ ?_<;>intro hb) | fail
   refine fR Tryz.results209 ?_
   exact hh
 have good:=Good.out hA
 clear Bad Good
 by_cases ht0:t=[]
 ·subst ht0
  have good:R (.ret (.tup [.str [],.int .i64 0])) S:=good
  have hbe:=fun S' ha=>s_ w0 S' S.length ha
  have hva:=Hva.out
  have hr:=Hr.out
  have hc0:((0:Nat):Int)=0:=rfl
  by_cases hs0:s.length=0
  ·have b1:((0:Int) != (s.length:Int))=false:=by rw [hs0];rfl
   clear hA hs0 hs htl
   refine eN Tryz.func209 rfl Tryz.ntmps209 fun hO=>?_
   repeat' first | refine st ?_ | (refine ca ?_;first | apply htr | apply hr | apply hva | (apply hbe;(· simp only [go_sem, *];try rfl))) | (refine br ?_ ?_<;>intro hb) | apply cP | apply eg | fail
   refine fR Tryz.results209 ?_
   exact good
  ·have b1:((0:Int) != (s.length:Int))=true:=by rw [bne_iff_ne];omega
   simp at hA
   have b2:(((s.length % 4:Nat):Int) != 0)=false:=by rw [bne_eq_false_iff_eq];omega
   have b3:decide ((2:Int)<((s.length - ([]:List UInt8).length:Nat):Int))=false:=by simp;omega
   exfalso
   omega
 have Good:=au good
 have hpos:0<t.length:=mq.2 ht0
 clear good ht0
 have HA:=au (cD hA (cD hs htl))
 have Hpos:=au hpos
 clear hA hs htl hpos
 refine eN Tryz.func209 rfl Tryz.ntmps209 fun hO=>?_
 refine share ?K1 ?hK1 fun key1=>?main
 case main =>
  have hva:=Hva.out
  have hr:=Hr.out
  replace key1:=au key1
  obtain⟨hA,hs,htl⟩:=HA.out
  by_cases h1:t.length=s.length
  ·have b1:((t.length:Int) != (s.length:Int))=false:=by rw [h1];simp
   clear hA h1 hs htl
   repeat' first | refine st ?_ | (refine ca ?_;first | apply htr | apply hr | apply hva) | (refine br ?_ ?_<;>intro hb) | fail
   refine mf [1000000,4,5,6,7,8,9,41,42] ?_
   simp only [iz,go_sem]
   exact key1.out
  ·have b1:((t.length:Int) != (s.length:Int))=true:=by rw [bne_iff_ne];omega
   have b2:(((s.length % 4:Nat):Int) != 0)=false:=by rw [bne_eq_false_iff_eq];omega
   have b3:decide ((2:Int)<((s.length - t.length:Nat):Int))=false:=by simp;omega
   clear hA h1 hs htl
   repeat' first | refine st ?_ | (refine ca ?_;first | apply htr | apply hr | apply hva) | (refine br ?_ ?_<;>intro hb) | fail
   refine mf [1000000,4,5,6,7,8,9,41,42] ?_
   simp only [iz,go_sem]
   exact key1.out
 case hK1 =>
  rintro env ⟨e0,f4,f5,f6,f7,f8,f9,f41,f42⟩
  clear htr
  refine lD (a:=S.length) (j:=1) 5 1 ss ss (by decide) ?_
  simp only [go_sem, *]
  refine dX (fun (p:Nat × Nat × AV × List Nat) env S'=>p.1≤t.length∧(p.2.2.1=.nilp∨p.2.2.1=.own S.length 0)∧ig (t.take p.1)=some p.2.2.2∧env 1000000=.dfr []∧env 4=.str t∧env 5=.own S.length 0∧env 6=.fn (.func 231) [] [.own (S.length+5) 0,.own (S.length+1) 0,.own (S.length+4) 0,.own (S.length+2) 0,.own (S.length+3) 0] ∧
   env 7=.mval M∧env 8=.int .i64 ((mg p.2.2.2).wait:Nat)∧env 9=.int .i64 ((mg p.2.2.2).rest:Nat)∧env 41=.int .i64 t.length∧env 42=.int .i64 (p.1:Int) ∧
   S'=S++eK S.length p.2.2.1 p.2.1 ((mg p.2.2.2).out.map aN) 6 8 (.fn (.func 252) [] [.own S.length 0]) ((mg p.2.2.2).wait:Nat) ((mg p.2.2.2).rest:Nat)) (fun p=>t.length - p.1) (0,0,.nilp,[]) ?_ ?_
  ·exact⟨bI _,.inl rfl,rfl,ss,ss,ss,ss,ss,ss,ss,ss,ss,rfl⟩
  ·clear e0 f4 f5 f6 f7 f8 f9 f41 f42
   rintro⟨k,i,ad,V⟩ env S' ⟨hk,had,hV,e0,f4,f5,f6,f7,f8,f9,f41,f42,rfl⟩ IH
   simp only at hk had hV f8 f9 f42
   have HI:=au IH
   obtain⟨hVm,hV64⟩:=pO hV
   have hVl:V.length=k:=by have:=congrArg lz hVm;simp at this;omega
   obtain⟨hi1,hi2⟩:=zR V.length V rfl hV64
   obtain⟨hA,hs,htl⟩:=HA.out
   clear IH hVm
   by_cases hlt:k<t.length
   ·obtain⟨c,hx⟩:∃ c,t[k]? = some c:=⟨_,aC hlt⟩
    have h1:decide ((k:Int)<(t.length:Int))=true:=by simpa using hlt
    have hw:ar.wrap ((k:Int)+1)=(k:Int)+1:=ay _ (by omega)
    have hlk:=fun S'=>Hlk.out S' c
    cases hc:mu c with
    | none =>
     have hbad:ig t=none:=wC hx hc
     have hh:=Good.out
     rw [hbad] at hh
     have hh:R (.ret (.tup [.str [],.int .i64 6])) S:=hh
     simp only [hc,Ng] at hlk
     have Hlk2:=au hlk
     clear hlk hbad hc hlt hk had hV hs htl hA hi1 hi2 hVl hV64 HI
     unfold eK
     repeat' first | refine st ?_ | (refine br ?_ ?_<;>intro hb) | fail
     refine cF (v:=.tup [.int .i64 0,.bool false]) ss (zQ (Hlk2.out _)) ss ?_
     simp only [putA]
     repeat' first | refine st ?_ | (refine br ?_ ?_<;>intro hb) | fail
     refine fR Tryz.results209 ?_
     exact hh
    | some v =>
     have hv:v<64:=(wD hc).1
     have hV2:ig (t.take (k+1))=some (V++[v]):=by
      rw [pI,hx]
      show ig (t.take k++[c])=_
      rw [AO,hV,hc]
      rfl
     simp only [hc,Ng] at hlk
     have hg:=MQ w0 S hO ad had i (mg V) v hv hi1 (by omega)
     rw [← wM] at hg
     generalize hp1:((mg (V++[v])).wait:Int)=p1 at hg
     generalize hp2:((mg (V++[v])).rest:Int)=p2 at hg
     generalize hp3:(mg (V++[v])).out.map aN=p3 at hg
     have Hp:=au (cD hp1 (cD hp2 hp3))
     clear hp1 hp2 hp3
     unfold eK at hg
     simp only at hg ⊢
     generalize ((mg V).wait:Int)=q1 at *
     generalize ((mg V).rest:Int)=q2 at *
     generalize (mg V).out.map aN=q3 at *
     have Hlt:=au hlt
     have HO:=au hO
     have Hlk2:=au hlk
     have HV2:=au hV2
     clear hlk hc hlt hk had hV hs htl hA hi1 hi2 hVl hV64 hO hv hV2
     unfold eK
     repeat' first | refine st ?_ | (refine br ?_ ?_<;>intro hb) | fail
     refine cF (v:=.tup [.int .i64 v,.bool true]) ss (zQ (Hlk2.out _)) ss ?_
     simp only [putA]
     repeat' first | refine st ?_ | (refine ca ?_;apply hg) | (refine br ?_ ?_<;>intro hb) | fail
     intro ad' i' had'
     have Had:=au had'
     clear had'
     repeat' first | refine st ?_ | (refine br ?_ ?_<;>intro hb) | fail
     obtain⟨hp1,hp2,hp3⟩:=Hp.out
     subst hp1 hp2 hp3
     refine HI.out (k+1,i',ad',V++[v]) _ _ (by have:=Hlt.out;simp only;omega) ⟨Hlt.out,Had.out,HV2.out, ?_, ?_, ?_, ?_, ?_, ?_, ?_, ?_, ?_,rfl⟩
     all_goals (simp only [go_sem, *];try rfl)
   ·have hkl:k=t.length:=by omega
    subst hkl
    have h1:decide ((t.length:Int)<(t.length:Int))=false:=by simp
    rw [bQ] at hV
    have hh:=Good.out
    rw [hV] at hh
    simp only at hh
    rw [← wN V hV64] at hh
    have hol:=sQ V
    have hwi:=sP V
    rw [← wN V hV64] at hol hwi
    have hp:=Hpos.out
    simp only
    by_cases hw6:(mg V).wait=6
    ·rw [if_pos (.inl hw6)] at hh
     have hh:R (.ret (.tup [.str [],.int .i64 6])) S:=hh
     have d1:(((mg V).wait:Int)==6)=true:=by rw [hw6];rfl
     clear hk had hV hs htl hA hi1 hi2 hVl hV64 HI hw6 hol hwi hp hlt
     unfold eK
     generalize ((mg V).wait:Int)=q1 at *
     generalize ((mg V).rest:Int)=q2 at *
     repeat' first | refine st ?_ | (refine br ?_ ?_<;>intro hb) | fail
     refine fR Tryz.results209 ?_
     exact hh
    ·have d1:(((mg V).wait:Int)==6)=false:=by rw [beq_eq_false_iff_ne];omega
     by_cases hr0:(mg V).rest=0
     ·rw [if_neg (by omega)] at hh
      have hh:R (.ret (.tup [.str ((mg V).out.map aN),.int .i64 0])) S:=hh
      have d2:(((mg V).rest:Int) != 0)=false:=by rw [hr0];rfl
      have hbl:1≤((mg V).out.map aN).length:=by rw [bB];omega
      have hst:=ME w0 S ad had i ((mg V).out.map aN) 6 8 (.fn (.func 252) [] [.own S.length 0]) ((mg V).wait:Nat) ((mg V).rest:Nat) hbl
      have HO:=au hO
      clear hk had hV hs htl hA hi1 hi2 hVl hV64 HI hw6 hol hwi hp hlt hr0 hbl hO
      generalize ((mg V).wait:Int)=q1 at *
      generalize ((mg V).rest:Int)=q2 at *
      generalize (mg V).out.map aN=q3 at *
      unfold eK at hst ⊢
      repeat' first | refine st ?_ | (refine ca ?_;apply hst) | (refine br ?_ ?_<;>intro hb) | fail
      refine fR Tryz.results209 ?_
      exact hh
     ·rw [if_pos (.inr hr0)] at hh
      have hh:R (.ret (.tup [.str [],.int .i64 6])) S:=hh
      have d2:(((mg V).rest:Int) != 0)=true:=by rw [bne_iff_ne];omega
      clear hk had hV hs htl hA hi1 hi2 hVl hV64 HI hw6 hol hwi hp hlt hr0
      generalize ((mg V).wait:Int)=q1 at *
      generalize ((mg V).rest:Int)=q2 at *
      unfold eK
      repeat' first | refine st ?_ | (refine br ?_ ?_<;>intro hb) | fail
      refine fR Tryz.results209 ?_
      exact hh
def AD (w0:World):Prop:=gl w0 11=.pro [.int .u8 0,.int .u8 1,.int .u8 56,.int .u8 2,.int .u8 57,.int .u8 49,.int .u8 28,.int .u8 3,.int .u8 61,.int .u8 58,.int .u8 42,.int .u8 50,.int .u8 38,.int .u8 29,.int .u8 17,.int .u8 4,.int .u8 62,.int .u8 47,.int .u8 59,.int .u8 36,.int .u8 45,.int .u8 43,.int .u8 51,.int .u8 22,.int .u8 53,.int .u8 39,.int .u8 33,.int .u8 30,.int .u8 24,.int .u8 18,.int .u8 12,.int .u8 5,.int .u8 63,.int .u8 55,.int .u8 48,.int .u8 27,.int .u8 60,.int .u8 41,.int .u8 37,.int .u8 16,.int .u8 46,.int .u8 35,.int .u8 44,.int .u8 21,.int .u8 52,.int .u8 32,.int .u8 23,.int .u8 11,.int .u8 54,.int .u8 26,.int .u8 40,.int .u8 15,.int .u8 34,.int .u8 20,.int .u8 31,.int .u8 10,.int .u8 25,.int .u8 14,.int .u8 19,.int .u8 9,.int .u8 13,.int .u8 8,.int .u8 7,.int .u8 6]
def EO (w0:World):Prop:=gl w0 2=.pro [.int .i64 0,.int .i64 13434880,.int .i64 52480,.int .i64 13487360,.int .i64 238,.int .i64 13435085,.int .i64 52685,.int .i64 15066597,.int .i64 8355711,.int .i64 16711680,.int .i64 65280,.int .i64 16776960,.int .i64 6053119,.int .i64 16711935,.int .i64 65535,.int .i64 16777215]
def Bp:List Nat:=[0,13434880,52480,13487360,238,13435085,52685,15066597,8355711,16711680,65280,16776960,6053119,16711935,65535,16777215]
theorem Kg:∀ n,n<16→∃ v rr,List.drop (n * 1) ([.int .i64 0,.int .i64 13434880,.int .i64 52480,.int .i64 13487360,.int .i64 238,.int .i64 13435085,.int .i64 52685,.int .i64 15066597,.int .i64 8355711,.int .i64 16711680,.int .i64 65280,.int .i64 16776960,.int .i64 6053119,.int .i64 16711935,.int .i64 65535,.int .i64 16777215]:List AV)=.int .i64 (v:Nat)::rr∧v≤16777215:=by
 intro n hn
 have h1:(Bp.map (fun v:Nat=>AV.int .i64 (v:Int)))=([.int .i64 0,.int .i64 13434880,.int .i64 52480,.int .i64 13487360,.int .i64 238,.int .i64 13435085,.int .i64 52685,.int .i64 15066597,.int .i64 8355711,.int .i64 16711680,.int .i64 65280,.int .i64 16776960,.int .i64 6053119,.int .i64 16711935,.int .i64 65535,.int .i64 16777215]:List AV):=rfl
 have h2:∀ n,n<16→∃ v,Bp[n]? = some v∧v≤16777215:=by
  have:∀ n,n<16→Bp.getD n 99999999≤16777215∧n<Bp.length:=by decide
  intro n hn
  obtain⟨h1,h2⟩:=this n hn
  refine⟨Bp[n],aC h2, ?_⟩
  rwa [List.getD_eq_getElem?_getD,aC h2] at h1
 obtain⟨v,hv,hvl⟩:=h2 n hn
 refine⟨v,(Bp.map (fun v:Nat=>AV.int .i64 (v:Int))).drop (n+1), ?_,hvl⟩
 have hl:=(aw.1 hv)
 rw [Nat.mul_one,← h1,List.drop_eq_getElem_cons (by simpa using hl.1)]
 simp [hl.2]
theorem yQ (w0:World) (S:List aH) (n:Nat) (hn:n<6) (R:Rt) (h:R (.ret (.int .i64 (if n=0 then 0 else (55+40 * n:Nat):Nat))) S):az Tryz.prog w0 271 [.int .i64 n] S R:=by
 by_cases h0:n=0
 ·subst h0
  have h:R (.ret (.int .i64 0)) S:=h
  refine eN Tryz.func271 rfl Tryz.ntmps271 fun hO=>?_
  repeat' first | refine st ?_ | (refine br ?_ ?_<;>intro hb) | fail
  refine fR Tryz.results271 ?_
  exact h
 ·rw [if_neg h0] at h
  have d1:((n:Int)==0)=false:=by rw [beq_eq_false_iff_ne];omega
  have w1:ar.wrap (40 * (n:Int))=((40 * n:Nat):Int):=by rw [ay _ (by omega)];omega
  have w2:ar.wrap (55+((40 * n:Nat):Int))=((55+40 * n:Nat):Int):=by rw [ay _ (by omega)];omega
  clear hn h0
  refine eN Tryz.func271 rfl Tryz.ntmps271 fun hO=>?_
  repeat' first | refine st ?_ | (refine br ?_ ?_<;>intro hb) | fail
  refine fR Tryz.results271 ?_
  exact h
def Ii (n:Nat):Nat:=if n=0 then 0 else 55+40 * n
theorem yT {n:Nat} (h:n<6):Ii n<256:=by unfold Ii;split<;>omega
theorem MA {a b:Nat} (ha:a<16777216) (hb:b<16777216):ar.wrap (((aD ar.bits (a:Int) ||| aD ar.bits (b:Int)).toNat:Nat):Int)=((a ||| b:Nat):Int)∧a ||| b<16777216:=by
 have hl:a ||| b<2 ^ 24:=Nat.or_lt_two_pow ha hb
 refine⟨?_,hl⟩
 rw [HT]
 have e2:(aD ar.bits (a:Int)).toNat=a:=by
  show (aD 64 _).toNat=_
  rw [cV];omega
 have e3:(aD ar.bits (b:Int)).toNat=b:=by
  show (aD 64 _).toNat=_
  rw [cV];omega
 rw [e2,e3]
 exact ay _ (by omega)
theorem K_ {a k:Nat} (ha:a<65536) (hk:k≤16):ar.wrap ((a:Int) * 2 ^ min k 64)=((a * 2 ^ k:Nat):Int):=by
 have h2:2 ^ k≤2 ^ 16:=gx (by omega) hk
 have h3:a * 2 ^ k≤65536 * 65536:=Nat.mul_le_mul (by omega) h2
 rw [Nat.min_eq_left (by omega),show ((a:Int) * 2 ^ k)=((a * 2 ^ k:Nat):Int) by simp]
 exact ay _ (by omega)
theorem QT (w0:World) (hN:EO w0) (S:List aH) (n:Nat) (hn:n<256) (R:Rt) (h:∀ v:Nat,v<16777216→R (.ret (.int .i64 v)) S):az Tryz.prog w0 230 [.int .i64 n] S R:=by
 unfold EO at hN
 by_cases h16:n<16
 ·have d1:decide ((n:Int)<16)=true:=by simp;omega
  have hk6:(n:Int)<((16:Nat):Int):=by omega
  obtain⟨v,rr,hv,hvl⟩:=Kg n h16
  have hh:=h v (by omega)
  clear h hn h16 hvl
  refine eN Tryz.func230 rfl Tryz.ntmps230 fun hO=>?_
  repeat' first | refine st ?_ | (refine br ?_ ?_<;>intro hb) | fail
  refine fR Tryz.results230 ?_
  exact hh
 have d1:decide ((n:Int)<16)=false:=by simp;omega
 by_cases h232:232≤n
 ·have d2:decide ((232:Int)≤(n:Int))=true:=by simp;omega
  have w1:ar.wrap ((n:Int) - 232)=((n - 232:Nat):Int):=by rw [ay _ (by omega)];omega
  have w2:ar.wrap (10 * ((n - 232:Nat):Int))=((10 * (n - 232):Nat):Int):=by rw [ay _ (by omega)];omega
  have w3:ar.wrap (8+((10 * (n - 232):Nat):Int))=((8+10 * (n - 232):Nat):Int):=by rw [ay _ (by omega)];omega
  have w4:ar.wrap (((8+10 * (n - 232):Nat):Int) * 65793)=(((8+10 * (n - 232)) * 65793:Nat):Int):=by rw [ay _ (by omega)];omega
  have hh:=h ((8+10 * (n - 232)) * 65793) (by omega)
  clear h hn h16 h232 hN
  refine eN Tryz.func230 rfl Tryz.ntmps230 fun hO=>?_
  repeat' first | refine st ?_ | (refine br ?_ ?_<;>intro hb) | fail
  refine fR Tryz.results230 ?_
  exact hh
 ·have d2:decide ((232:Int)≤(n:Int))=false:=by simp;omega
  obtain⟨m,hm⟩:∃ m,m=n - 16:=⟨_,rfl⟩
  have w1:ar.wrap ((n:Int) - 16)=(m:Int):=by rw [ay _ (by omega)];omega
  have k1:ar.wrap ((m:Int).tdiv 36)=((m / 36:Nat):Int):=A0 m 36 (by omega)
  have k2:ar.wrap ((m:Int).tdiv 6)=((m / 6:Nat):Int):=A0 m 6 (by omega)
  have k3:((m / 6:Nat):Int).tmod 6=((m / 6 % 6:Nat):Int):=gm (m / 6) 6
  have k4:(m:Int).tmod 6=((m % 6:Nat):Int):=gm m 6
  have l1:=fun S'=>yQ w0 S' (m / 36) (by omega)
  have l2:=fun S'=>yQ w0 S' (m / 6 % 6) (by omega)
  have l3:=fun S'=>yQ w0 S' (m % 6) (by omega)
  have b1:=yT (n:=m / 36) (by omega)
  have b2:=yT (n:=m / 6 % 6) (by omega)
  have b3:=yT (n:=m % 6) (by omega)
  rw [show (if m / 36=0 then 0 else (55+40 * (m / 36):Nat))=Ii (m / 36) from rfl] at l1
  rw [show (if m / 6 % 6=0 then 0 else (55+40 * (m / 6 % 6):Nat))=Ii (m / 6 % 6) from rfl] at l2
  rw [show (if m % 6=0 then 0 else (55+40 * (m % 6):Nat))=Ii (m % 6) from rfl] at l3
  generalize Ii (m / 36)=L1 at *
  generalize Ii (m / 6 % 6)=L2 at *
  generalize Ii (m % 6)=L3 at *
  have s1:=K_ (a:=L1) (k:=16) (by omega) (by omega)
  have s2:=K_ (a:=L2) (k:=8) (by omega) (by omega)
  obtain⟨a1,ha1⟩:∃ a1,a1=L1 * 2 ^ 16:=⟨_,rfl⟩
  obtain⟨a2,ha2⟩:∃ a2,a2=L2 * 2 ^ 8:=⟨_,rfl⟩
  rw [← ha1] at s1
  rw [← ha2] at s2
  obtain⟨o1,q1⟩:=MA (a:=a1) (b:=a2) (by omega) (by omega)
  obtain⟨o2,q2⟩:=MA (a:=a1 ||| a2) (b:=L3) q1 (by omega)
  simp only [bz] at o1 o2
  have hh:=h _ q2
  generalize a1 ||| a2=a3 at *
  generalize a3 ||| L3=a4 at *
  clear h hn h16 h232 hm b1 b2 b3 ha1 ha2 q1 q2 hN
  refine eN Tryz.func230 rfl Tryz.ntmps230 fun hO=>?_
  repeat' first | refine st ?_ | (refine ca ?_;first | apply l1 | apply l2 | apply l3) | (refine br ?_ ?_<;>intro hb) | fail
  refine fR Tryz.results230 ?_
  exact hh
theorem LQ (w0:World) (S:List aH) (R:Rt) (h:R (.ret (.bool true)) S):az Tryz.prog w0 303 [.int .i64 16] S R:=by
 have f1:ar.wrap 15=15:=by decide
 have f2:ar.wrap (((aD ar.bits 16 &&& aD ar.bits 15).toNat:Nat):Int)=0:=by decide
 simp only [bz] at f2
 refine eN Tryz.func303 rfl Tryz.ntmps303 fun hO=>?_
 repeat' first | refine st ?_ | (refine br ?_ ?_<;>intro hb) | fail
 refine fR Tryz.results303 ?_
 exact h
theorem MK (w0:World) (hD:AD w0) (S:List aH) (R:Rt) (h:R (.ret (.int .i64 4)) S):az Tryz.prog w0 326 [.int .u64 16] S R:=by
 unfold AD at hD
 have f1:bc.wrap (-16)=18446744073709551600:=by decide
 have f2:bc.wrap (((aD bc.bits 16 &&& aD bc.bits 18446744073709551600).toNat:Nat):Int)=16:=by decide
 have f3:bc.wrap (16 * 285870213051353865)=4573923408821661840:=by decide
 have f4:(4573923408821661840:Int).fdiv (2 ^ min 58 64)=15:=by decide
 have f5:ar.wrap 4=4:=by decide
 simp only [bz] at f2
 refine eN Tryz.func326 rfl Tryz.ntmps326 fun hO=>?_
 repeat' first | refine st ?_ | (refine br ?_ ?_<;>intro hb) | fail
 refine fR Tryz.results326 ?_
 exact h
theorem tz (w0:World) (hD:AD w0) (S:List aH) (R:Rt) (h:R (.ret (.int .i64 4)) S):az Tryz.prog w0 304 [.int .u64 16] S R:=by
 have ht:=MK w0 hD
 refine eN Tryz.func304 rfl Tryz.ntmps304 fun hO=>?_
 repeat' first | refine st ?_ | (refine ca ?_;apply ht) | (refine br ?_ ?_<;>intro hb) | fail
 refine fR Tryz.results304 ?_
 exact h
theorem B3 {m k:Nat} (hm:m<4294967296) (hk:k≤16):bc.wrap (((aD bc.bits (m:Int) &&& aD bc.bits ((2 ^ k - 1:Nat):Int)).toNat:Nat):Int)=((m % 2 ^ k:Nat):Int):=by
 rw [EV]
 have h2:2 ^ k≤2 ^ 16:=gx (by omega) hk
 have h0:0<2 ^ k:=Nat.two_pow_pos k
 have e1:(aD bc.bits (m:Int)).toNat=m:=by
  show (aD 64 _).toNat=_
  rw [cV];omega
 have e2:(aD bc.bits ((2 ^ k - 1:Nat):Int)).toNat=2 ^ k - 1:=by
  show (aD 64 _).toNat=_
  rw [cV];omega
 rw [e1,e2,zD m k]
 have:=fa m h0
 exact hJ _ (by omega)
theorem MG:Go.Fen.zeroA Tryz.prog 315=some [.int .u8 0,.int .u8 0,.int .u8 0,.int .u8 0,.int .u8 0,.int .u8 0,.int .u8 0,.int .u8 0,.int .u8 0,.int .u8 0,.int .u8 0,.int .u8 0,.int .u8 0,.int .u8 0,.int .u8 0,.int .u8 0,.int .u8 0,.int .u8 0,.int .u8 0,.int .u8 0,.int .u8 0,.int .u8 0,.int .u8 0,.int .u8 0,.int .u8 0,.int .u8 0,.int .u8 0,.int .u8 0,.int .u8 0,.int .u8 0,.int .u8 0,.int .u8 0,.int .u8 0,.int .u8 0,.int .u8 0,.int .u8 0,.int .u8 0,.int .u8 0,.int .u8 0,.int .u8 0,.int .u8 0,.int .u8 0,.int .u8 0,.int .u8 0,.int .u8 0,.int .u8 0,.int .u8 0,.int .u8 0,.int .u8 0,.int .u8 0,.int .u8 0,.int .u8 0,.int .u8 0,.int .u8 0,.int .u8 0,.int .u8 0,.int .u8 0,.int .u8 0,.int .u8 0,.int .u8 0,.int .u8 0,.int .u8 0,.int .u8 0,.int .u8 0,.int .u8 0]:=by kernel_rfl
theorem qf:∀ d,d<16→([48,49,50,51,52,53,54,55,56,57,97,98,99,100,101,102,103,104,105,106,107,108,109,110,111,112,113,114,115,116,117,118,119,120,121,122]:List UInt8)[d]? = some (ej d):=by decide +kernel
theorem GL (w0:World) (hD:AD w0) (S:List aH) (m:Nat) (h1:16777216≤m) (h2:m<33554432) (R:Rt)
  (h:∀ v,R (.ret (.tup [v,.str [49,ej (m / 16 / 16 / 16 / 16 / 16 % 16),ej (m / 16 / 16 / 16 / 16 % 16),ej (m / 16 / 16 / 16 % 16),ej (m / 16 / 16 % 16),ej (m / 16 % 16),ej (m % 16)]])) S) :
  az Tryz.prog w0 266 [.sval false [],.int .u64 m,.int .i64 16,.bool false,.bool false] S R:=by
 have hp:=LQ w0
 have hz:=MG
 have wk58:ar.wrap 58=58:=by decide
 have wk59:ar.wrap 59=59:=by decide
 have wk60:ar.wrap 60=60:=by decide
 have wk61:ar.wrap 61=61:=by decide
 have wk62:ar.wrap 62=62:=by decide
 have wk63:ar.wrap 63=63:=by decide
 have wk64:ar.wrap 64=64:=by decide
 have wk65:ar.wrap 65=65:=by decide
 have htz:=tz w0 hD
 have f1:bc.wrap 16=16:=by decide
 have f2:bc.wrap 4=4:=by decide
 have f3:bc.wrap 15=15:=by decide
 obtain⟨u1,hu1⟩:∃ u,u=m / 16:=⟨_,rfl⟩
 obtain⟨u2,hu2⟩:∃ u,u=u1 / 16:=⟨_,rfl⟩
 obtain⟨u3,hu3⟩:∃ u,u=u2 / 16:=⟨_,rfl⟩
 obtain⟨u4,hu4⟩:∃ u,u=u3 / 16:=⟨_,rfl⟩
 obtain⟨u5,hu5⟩:∃ u,u=u4 / 16:=⟨_,rfl⟩
 have g0:decide ((16:Int)≤(m:Int))=true:=by simp;omega
 have a0:bc.wrap (((aD bc.bits (m:Int) &&& aD bc.bits 15).toNat:Nat):Int)=((m % 16:Nat):Int):=B3 (m:=m) (k:=4) (by omega) (by omega)
 simp only [bz] at a0
 have x0:=qf (m % 16) (by omega)
 have s0:(m:Int).fdiv (2 ^ min 4 64)=(u1:Int):=by rw [hu1];exact li m 4 (by omega)
 have g1:decide ((16:Int)≤(u1:Int))=true:=by simp;omega
 have a1:bc.wrap (((aD bc.bits (u1:Int) &&& aD bc.bits 15).toNat:Nat):Int)=((u1 % 16:Nat):Int):=B3 (m:=u1) (k:=4) (by omega) (by omega)
 simp only [bz] at a1
 have x1:=qf (u1 % 16) (by omega)
 have s1:(u1:Int).fdiv (2 ^ min 4 64)=(u2:Int):=by rw [hu2];exact li u1 4 (by omega)
 have g2:decide ((16:Int)≤(u2:Int))=true:=by simp;omega
 have a2:bc.wrap (((aD bc.bits (u2:Int) &&& aD bc.bits 15).toNat:Nat):Int)=((u2 % 16:Nat):Int):=B3 (m:=u2) (k:=4) (by omega) (by omega)
 simp only [bz] at a2
 have x2:=qf (u2 % 16) (by omega)
 have s2:(u2:Int).fdiv (2 ^ min 4 64)=(u3:Int):=by rw [hu3];exact li u2 4 (by omega)
 have g3:decide ((16:Int)≤(u3:Int))=true:=by simp;omega
 have a3:bc.wrap (((aD bc.bits (u3:Int) &&& aD bc.bits 15).toNat:Nat):Int)=((u3 % 16:Nat):Int):=B3 (m:=u3) (k:=4) (by omega) (by omega)
 simp only [bz] at a3
 have x3:=qf (u3 % 16) (by omega)
 have s3:(u3:Int).fdiv (2 ^ min 4 64)=(u4:Int):=by rw [hu4];exact li u3 4 (by omega)
 have g4:decide ((16:Int)≤(u4:Int))=true:=by simp;omega
 have a4:bc.wrap (((aD bc.bits (u4:Int) &&& aD bc.bits 15).toNat:Nat):Int)=((u4 % 16:Nat):Int):=B3 (m:=u4) (k:=4) (by omega) (by omega)
 simp only [bz] at a4
 have x4:=qf (u4 % 16) (by omega)
 have s4:(u4:Int).fdiv (2 ^ min 4 64)=(u5:Int):=by rw [hu5];exact li u4 4 (by omega)
 have g5:decide ((16:Int)≤(u5:Int))=true:=by simp;omega
 have a5:bc.wrap (((aD bc.bits (u5:Int) &&& aD bc.bits 15).toNat:Nat):Int)=((u5 % 16:Nat):Int):=B3 (m:=u5) (k:=4) (by omega) (by omega)
 simp only [bz] at a5
 have x5:=qf (u5 % 16) (by omega)
 have s5:(u5:Int).fdiv (2 ^ min 4 64)=1:=by rw [li u5 4 (by omega)];omega
 rw [← hu1] at h
 rw [← hu2] at h
 rw [← hu3] at h
 rw [← hu4] at h
 rw [← hu5] at h
 generalize ej (m % 16)=c0 at h x0
 generalize m % 16=e0 at a0 x0
 generalize ej (u1 % 16)=c1 at h x1
 generalize u1 % 16=e1 at a1 x1
 generalize ej (u2 % 16)=c2 at h x2
 generalize u2 % 16=e2 at a2 x2
 generalize ej (u3 % 16)=c3 at h x3
 generalize u3 % 16=e3 at a3 x3
 generalize ej (u4 % 16)=c4 at h x4
 generalize u4 % 16=e4 at a4 x4
 generalize ej (u5 % 16)=c5 at h x5
 generalize u5 % 16=e5 at a5 x5
 clear h1 h2 hu1 hu2 hu3 hu4 hu5 hD
 refine eN Tryz.func266 rfl Tryz.ntmps266 fun hO=>?_
 repeat' first | refine st ?_ | (refine ca ?_;first | apply hp | apply htz) | (refine br ?_ ?_<;>intro hb) | apply cP | apply eg | fail
 refine gV (t:=12) (a:=S.length) (o:=0) ss ss ?_
 simp only [go_sem, *]
 refine Cs (i:=58) (kk:=.i64) (e:=5) (m:=65) ss rfl ss ss ss (by show _=AV.int .i64 58;(simp only [go_sem, *];try rfl)) ss (by decide) ss ?_
 simp only [putA]
 repeat' first | apply dM | apply cW | apply cj | apply cX | apply dN | apply bv | apply dQ | apply bx | apply bl | apply bF | apply bw | apply bj | apply aZ | apply dP | (apply a_;(· rfl)) | (apply bD;simp only [aU]) | (apply bZ;(· rfl);(· simp only [go_sem, *,cz];try rfl);(· rfl);simp only [putA]) | (apply cZ;simp only [putA]) | apply bG | (apply b_;(· simp only [go_sem, *,cz];try rfl);(· rfl);(· simp only [go_sem, *,cz];try rfl)) | (apply cF;(iterate 2 (· simp only [go_sem, *,cz];try rfl));(· rfl);simp only [putA]) | (apply bi;(· simp only [go_sem, *,cz];try rfl);(· rfl);simp only [putA]) | (apply ce;(· simp only [go_sem, *,cz];try rfl)) | (apply ci;(· simp only [go_sem, *,cz];try rfl)) | (apply bE;(· rfl);(fail_if_success (focus (show _=some true;(· simp only [go_sem, *,cz];try rfl))));(· simp only [go_sem, *,cz];try rfl);all_goals (intro hb;try simp only [ax,aA] at hb)) | (apply cg;(· simp only [go_sem, *,cz];try rfl);all_goals (intro hb;try simp only [ax,aA] at hb)) | fail
 refine fR Tryz.results266 ?_
 exact h _
theorem Pt {v:Nat} (hv:v<16777216):ar.wrap (((aD ar.bits (v:Int) ||| aD ar.bits 16777216).toNat:Nat):Int)=((v+16777216:Nat):Int):=by
 rw [HT]
 have e2:(aD ar.bits (v:Int)).toNat=v:=by
  show (aD 64 _).toNat=_
  rw [cV];omega
 have e3:(aD ar.bits 16777216).toNat=16777216:=by decide
 rw [e2,e3]
 have e4:v ||| 16777216=v+16777216:=by
  have:=Nat.shiftLeft_add_eq_or_of_lt (b:=v) (i:=24) (by omega) 1
  rw [Nat.shiftLeft_eq,Nat.or_comm,show (1:Nat) * 2 ^ 24=16777216 by decide] at this
  omega
 rw [e4]
 exact ay _ (by omega)
theorem L4 (w0:World) (hD:AD w0) (S:List aH) (m:Nat) (h1:16777216≤m) (h2:m<33554432) (R:Rt)
  (h:R (.ret (.str [49,ej (m / 16 / 16 / 16 / 16 / 16 % 16),ej (m / 16 / 16 / 16 / 16 % 16),ej (m / 16 / 16 / 16 % 16),ej (m / 16 / 16 % 16),ej (m / 16 % 16),ej (m % 16)])) S) :
  az Tryz.prog w0 222 [.int .i64 m,.int .i64 16] S R:=by
 have hf:=fun S'=>GL w0 hD S' m h1 h2
 generalize [49,ej (m / 16 / 16 / 16 / 16 / 16 % 16),ej (m / 16 / 16 / 16 / 16 % 16),ej (m / 16 / 16 / 16 % 16),ej (m / 16 / 16 % 16),ej (m / 16 % 16),ej (m % 16)]=T at hf h
 have w1:bc.wrap (m:Int)=(m:Int):=hJ _ (by omega)
 have d1:decide ((m:Int)<0)=false:=by simp
 clear h1 h2 hD
 refine eN Tryz.func222 rfl Tryz.ntmps222 fun hO=>?_
 repeat' first | refine st ?_ | (refine ca ?_;apply hf) | (refine br ?_ ?_<;>intro hb) | fail
 intro v
 repeat' first | refine st ?_ | (refine br ?_ ?_<;>intro hb) | fail
 refine fR Tryz.results222 ?_
 exact h
theorem L5 (w0:World) (hD:AD w0) (S:List aH) (m:Nat) (h1:16777216≤m) (h2:m<33554432) (R:Rt)
  (h:R (.ret (.str [49,ej (m / 16 / 16 / 16 / 16 / 16 % 16),ej (m / 16 / 16 / 16 / 16 % 16),ej (m / 16 / 16 / 16 % 16),ej (m / 16 / 16 % 16),ej (m / 16 % 16),ej (m % 16)])) S) :
  az Tryz.prog w0 189 [.int .i64 m,.int .i64 16] S R:=by
 have hf:=fun S'=>L4 w0 hD S' m h1 h2
 generalize [49,ej (m / 16 / 16 / 16 / 16 / 16 % 16),ej (m / 16 / 16 / 16 / 16 % 16),ej (m / 16 / 16 / 16 % 16),ej (m / 16 / 16 % 16),ej (m / 16 % 16),ej (m % 16)]=T at hf h
 clear h1 h2 hD
 refine eN Tryz.func189 rfl Tryz.ntmps189 fun hO=>?_
 repeat' first | refine st ?_ | (refine ca ?_;apply hf) | (refine br ?_ ?_<;>intro hb) | fail
 refine fR Tryz.results189 ?_
 exact h
theorem z8 {n:Nat} (h:n<16777216):(n+16777216) / 16 / 16 / 16 / 16 / 16 % 16=n / 1048576∧(n+16777216) / 16 / 16 / 16 / 16 % 16=n / 65536 % 16∧(n+16777216) / 16 / 16 / 16 % 16=n / 4096 % 16∧(n+16777216) / 16 / 16 % 16=n / 256 % 16∧(n+16777216) / 16 % 16=n / 16 % 16∧(n+16777216) % 16=n % 16:=by
 omega
theorem LJ (w0:World) (S:List aH) (n:Int) (hn:iX 0 n=true) (R:Rt) (h:R (.ret (.tup [.int .i64 0,.bool false])) S):az Tryz.prog w0 188 [.agg [.int .i64 0,.int .i64 n]] S R:=by
 have hc:=fun S'=>iB w0 S' 0 n
 rw [hn,if_pos rfl] at hc
 clear hn
 refine eN Tryz.func188 rfl Tryz.ntmps188 fun hO=>?_
 repeat' first | refine st ?_ | (refine ca ?_;apply hc) | (refine br ?_ ?_<;>intro hb) | fail
 refine fR Tryz.results188 ?_
 exact h
theorem LI (w0:World) (hN:EO w0) (S:List aH) (n:Int) (hn:iX 1 n=true) (R:Rt) (h:∀ v:Nat,v<16777216→R (.ret (.tup [.int .i64 v,.bool true])) S):az Tryz.prog w0 188 [.agg [.int .i64 1,.int .i64 n]] S R:=by
 have hc:=fun S'=>iB w0 S' 1 n
 rw [hn,if_pos rfl] at hc
 have hb:0≤n∧n≤255:=by simpa [iX,vF] using hn
 obtain⟨u,rfl⟩:∃ u:Nat,n=u:=⟨n.toNat,by omega⟩
 have ha:=fun S'=>QT w0 hN S' u (by omega)
 clear hn hb
 refine eN Tryz.func188 rfl Tryz.ntmps188 fun hO=>?_
 repeat' first | refine st ?_ | (refine ca ?_;first | apply hc | apply ha) | (refine br ?_ ?_<;>intro hb) | fail
 intro v hv
 have hh:=h v hv
 clear h hv
 repeat' first | refine st ?_ | (refine br ?_ ?_<;>intro hb) | fail
 refine fR Tryz.results188 ?_
 exact hh
def Mw (w0:World) (k n:Int) (v:Nat):Prop:=∀ (S:List aH) (R:Rt),R (.ret (.tup [.int .i64 v,.bool true])) S→az Tryz.prog w0 188 [.agg [.int .i64 k,.int .i64 n]] S R
theorem Ig (w0:World) (hD:AD w0) (S:List aH) (k n:Int) (v:Nat) (hv:v<16777216) (hk:iX k n=true) (hR:Mw w0 k n v) (R:Rt) (h:R (.ret (.tup [.str (kJ v),.int .i64 0])) S):az Tryz.prog w0 115 [.agg [.int .i64 k,.int .i64 n]] S R:=by
 have hc:=fun S'=>iB w0 S' k n
 rw [hk,if_pos rfl] at hc
 unfold Mw at hR
 have ho:=Pt hv
 have hf:=fun S'=>L5 w0 hD S' (v+16777216) (by omega) (by omega)
 obtain⟨g1,g2,g3,g4,g5,g6⟩:=z8 hv
 rw [g1,g2,g3,g4,g5,g6] at hf
 unfold kJ at h
 generalize ej (v / 1048576)=c1 at *
 generalize ej (v / 65536 % 16)=c2 at *
 generalize ej (v / 4096 % 16)=c3 at *
 generalize ej (v / 256 % 16)=c4 at *
 generalize ej (v / 16 % 16)=c5 at *
 generalize ej (v % 16)=c6 at *
 generalize v+16777216=m at ho hf
 simp only [bz] at ho
 clear hv hk hD g1 g2 g3 g4 g5 g6
 refine eN Tryz.func115 rfl Tryz.ntmps115 fun hO=>?_
 repeat' first | apply dM | apply cW | apply cj | apply cX | apply dN | apply bv | apply dQ | apply bx | apply bl | apply bF | apply bw | apply bj | apply aZ | apply dP | (apply a_;(· rfl)) | (apply bD;simp only [aU]) | (apply bZ;(· rfl);(· simp only [go_sem, *,ab];try rfl);(· rfl);simp only [putA]) | (apply cZ;simp only [putA]) | apply bG | (apply cI [];(· simp only [go_sem, *,ab];try rfl);(· rfl);(· simp only [go_sem, *,ab];try rfl);(· rfl);(iterate 2 (· simp only [go_sem, *,ab];try rfl));(first | apply hc | apply hR | apply hf);simp only [aR,putA]) | (apply b_;(· simp only [go_sem, *,ab];try rfl);(· rfl);(· simp only [go_sem, *,ab];try rfl)) | (apply cF;(iterate 2 (· simp only [go_sem, *,ab];try rfl));(· rfl);simp only [putA]) | (apply bi;(· simp only [go_sem, *,ab];try rfl);(· rfl);simp only [putA]) | (apply ce;(· simp only [go_sem, *,ab];try rfl)) | (apply ci;(· simp only [go_sem, *,ab];try rfl)) | (apply bE;(· rfl);(fail_if_success (focus (show _=some true;(· simp only [go_sem, *,ab];try rfl))));(· simp only [go_sem, *,ab];try rfl);all_goals (intro hb;try simp only [ax,aA] at hb)) | (apply cg;(· simp only [go_sem, *,ab];try rfl);all_goals (intro hb;try simp only [ax,aA] at hb)) | (apply eR;(· exact mixed);(· simp only [fj,ah,aj,gK];try rfl)) | (apply oC;(· decide +kernel)) | (apply tu;(repeat (apply zy;(· decide +kernel)));apply oH;(· decide +kernel);(· first | exact eV | exact eU | exact iQ | assumption);(· rfl);(iterate 3 (· simp only [go_sem, *,ab];try rfl));(· rfl);(· simp only [go_sem, *,ab];try rfl);simp only [putA]) | (apply tu;(repeat (apply zy;(· decide +kernel)));apply tg;(· decide +kernel);(· first | exact eV | exact eU | exact iQ | assumption);(· rfl);(iterate 2 (· simp only [go_sem, *,ab];try rfl));(· rfl);simp only [putA]) | (apply tu;(repeat (apply KQ;(· decide +kernel)));apply th;(· decide +kernel)) | (apply mS;(iterate 3 (· simp only [go_sem, *,ab];try rfl));(· rfl);simp only [putA]) | (apply sj;(iterate 2 (· simp only [go_sem, *,ab];try rfl));(· rfl);simp only [putA]) | apply n6 | apply lI | apply sb | apply aE | apply gI | (apply j8;(· decide +kernel)) | (apply mP;(· simp only [go_sem, *,ab];try rfl)) | (apply od [];(iterate 2 (· simp only [go_sem, *,ab];try rfl));(· rfl);(· simp only [go_sem, *,ab];try rfl);(· rfl);(iterate 2 (· simp only [go_sem, *,ab];try rfl));(first | apply hc | apply hR | apply hf);simp only [cw,putA]) | fail
 all_goals refine fR Tryz.results115 ?_
 all_goals exact h
theorem J5 (w0:World) (hD:AD w0) (hN:EO w0) (S:List aH) (n:Int) (hk:iX 1 n=true) (R:Rt) (h:∀ x,R (.ret (.tup [.str x,.int .i64 0])) S):az Tryz.prog w0 115 [.agg [.int .i64 1,.int .i64 n]] S R:=by
 have hc:=fun S'=>iB w0 S' 1 n
 rw [hk,if_pos rfl] at hc
 have hR:=fun S'=>LI w0 hN S' n hk
 have HD:=au hD
 clear hk hN hD
 refine eN Tryz.func115 rfl Tryz.ntmps115 fun hO=>?_
 repeat' first | refine st ?_ | (refine ca ?_;first | apply hc | apply hR) | (refine br ?_ ?_<;>intro hb) | fail
 intro v hv
 have ho:=Pt hv
 have hf:=fun S'=>L5 w0 HD.out S' (v+16777216) (by omega) (by omega)
 obtain⟨g1,g2,g3,g4,g5,g6⟩:=z8 hv
 rw [g1,g2,g3,g4,g5,g6] at hf
 generalize ej (v / 1048576)=c1 at *
 generalize ej (v / 65536 % 16)=c2 at *
 generalize ej (v / 4096 % 16)=c3 at *
 generalize ej (v / 256 % 16)=c4 at *
 generalize ej (v / 16 % 16)=c5 at *
 generalize ej (v % 16)=c6 at *
 generalize v+16777216=m at ho hf
 simp only [bz] at ho
 clear hv g1 g2 g3 g4 g5 g6
 repeat' first | apply dM | apply cW | apply cj | apply cX | apply dN | apply bv | apply dQ | apply bx | apply bl | apply bF | apply bw | apply bj | apply aZ | apply dP | (apply a_;(· rfl)) | (apply bD;simp only [aU]) | (apply bZ;(· rfl);(· simp only [go_sem, *,ab];try rfl);(· rfl);simp only [putA]) | (apply cZ;simp only [putA]) | apply bG | (apply cI [];(· simp only [go_sem, *,ab];try rfl);(· rfl);(· simp only [go_sem, *,ab];try rfl);(· rfl);(iterate 2 (· simp only [go_sem, *,ab];try rfl));(first | apply hf);simp only [aR,putA]) | (apply b_;(· simp only [go_sem, *,ab];try rfl);(· rfl);(· simp only [go_sem, *,ab];try rfl)) | (apply cF;(iterate 2 (· simp only [go_sem, *,ab];try rfl));(· rfl);simp only [putA]) | (apply bi;(· simp only [go_sem, *,ab];try rfl);(· rfl);simp only [putA]) | (apply ce;(· simp only [go_sem, *,ab];try rfl)) | (apply ci;(· simp only [go_sem, *,ab];try rfl)) | (apply bE;(· rfl);(fail_if_success (focus (show _=some true;(· simp only [go_sem, *,ab];try rfl))));(· simp only [go_sem, *,ab];try rfl);all_goals (intro hb;try simp only [ax,aA] at hb)) | (apply cg;(· simp only [go_sem, *,ab];try rfl);all_goals (intro hb;try simp only [ax,aA] at hb)) | (apply eR;(· exact mixed);(· simp only [fj,ah,aj,gK];try rfl)) | (apply oC;(· decide +kernel)) | (apply tu;(repeat (apply zy;(· decide +kernel)));apply oH;(· decide +kernel);(· first | exact eV | exact eU | exact iQ | assumption);(· rfl);(iterate 3 (· simp only [go_sem, *,ab];try rfl));(· rfl);(· simp only [go_sem, *,ab];try rfl);simp only [putA]) | (apply tu;(repeat (apply zy;(· decide +kernel)));apply tg;(· decide +kernel);(· first | exact eV | exact eU | exact iQ | assumption);(· rfl);(iterate 2 (· simp only [go_sem, *,ab];try rfl));(· rfl);simp only [putA]) | (apply tu;(repeat (apply KQ;(· decide +kernel)));apply th;(· decide +kernel)) | (apply mS;(iterate 3 (· simp only [go_sem, *,ab];try rfl));(· rfl);simp only [putA]) | (apply sj;(iterate 2 (· simp only [go_sem, *,ab];try rfl));(· rfl);simp only [putA]) | apply n6 | apply lI | apply sb | apply aE | apply gI | (apply j8;(· decide +kernel)) | (apply mP;(· simp only [go_sem, *,ab];try rfl)) | (apply od [];(iterate 2 (· simp only [go_sem, *,ab];try rfl));(· rfl);(· simp only [go_sem, *,ab];try rfl);(· rfl);(iterate 2 (· simp only [go_sem, *,ab];try rfl));(first | apply hf);simp only [cw,putA]) | fail
 all_goals refine fR Tryz.results115 ?_
 all_goals exact h _
theorem J6 (w0:World) (S:List aH) (n:Int) (hk:iX 0 n=true) (R:Rt) (h:R (.ret (.tup [.str [],.int .i64 2])) S):az Tryz.prog w0 115 [.agg [.int .i64 0,.int .i64 n]] S R:=by
 have hc:=fun S'=>iB w0 S' 0 n
 rw [hk,if_pos rfl] at hc
 have hR:=fun S'=>LJ w0 S' n hk
 clear hk
 refine eN Tryz.func115 rfl Tryz.ntmps115 fun hO=>?_
 repeat' first | refine st ?_ | (refine ca ?_;first | apply hc | apply hR) | (refine br ?_ ?_<;>intro hb) | fail
 refine fR Tryz.results115 ?_
 exact h
theorem J4 (w0:World) (S:List aH) (k n:Int) (hk:iX k n=false) (R:Rt) (h:R (.ret (.tup [.str [],.int .i64 130])) S):az Tryz.prog w0 115 [.agg [.int .i64 k,.int .i64 n]] S R:=by
 have hc:=fun S'=>iB w0 S' k n
 rw [hk,if_neg (by decide)] at hc
 clear hk
 refine eN Tryz.func115 rfl Tryz.ntmps115 fun hO=>?_
 repeat' first | refine st ?_ | (refine ca ?_;apply hc) | (refine br ?_ ?_<;>intro hb) | fail
 refine fR Tryz.results115 ?_
 exact h
theorem J3 (w0:World) (hD:AD w0) (hN:EO w0) (S:List aH) (k n:Int) (R:Rt)
  (hG:k=2→iX 2 n=true→R (.ret (.tup [.str (kJ n.toNat),.int .i64 0])) S) (hB:∀ x e,¬ (k=2∧iX 2 n=true)→(((e:Int)==0)&&((k:Int)==2))=false→R (.ret (.tup [.str x,.int .i64 e])) S):az Tryz.prog w0 115 [.agg [.int .i64 k,.int .i64 n]] S R:=by
 cases hc:iX k n with
 | false=>exact J4 w0 S k n hc R (hB [] 130 (by rintro⟨rfl,e⟩;rw [e] at hc;cases hc) rfl)
 | true =>
  have hk:k=0∨k=1∨k=2:=by
   simp [iX] at hc
   omega
  rcases hk with rfl | rfl | rfl
  ·exact J6 w0 S n hc R (hB _ _ (by simp) rfl)
  ·exact J5 w0 hD hN S n hc R (fun x=>hB x 0 (by simp) rfl)
  ·have hb:0≤n∧n≤16777215:=by simpa [iX,vF] using hc
   obtain⟨v,rfl⟩:∃ v:Nat,n=v:=⟨n.toNat,by omega⟩
   exact Ig w0 hD S 2 v v (by omega) hc (fun S' R h=>LK w0 S' v hc R h) R (hG rfl hc)
theorem v6 (l:List UInt8) (c:UInt8):(Lib.countByte l c:Int)=(l.count c:Nat):=rfl
theorem Md (w0:World) (S:List aH) (s:List UInt8) (R:Rt) (h:R (.ret (.int .i64 (s.count 47:Nat))) S):az Tryz.prog w0 317 [.str s,.str [47]] S R:=by
 refine az.lib (vs:=[.string ⟨s.toArray⟩,.string ⟨#[47]⟩]) (v:=.int .i64 (s.count 47:Nat)) (c:=.int .i64 (s.count 47:Nat)) (Go.Proofs.enters_of Tryz.func317 (by kernel_rfl) rfl) rfl rfl ?_ h
 intro w hb
 refine(Go.Proofs.Any.strings_Count_one Go.Proofs.Tryz.lays138 ⟨s.toArray⟩ 47 w).mono ?_
 rintro e w' ⟨rfl,rfl⟩
 refine⟨by rw [← v6],l7 _ _⟩
theorem M9 (w0:World) (S:List aH) (s:List UInt8) (R:Rt) (h:R (.ret (.int .i64 (dx s 47))) S):az Tryz.prog w0 307 [.str s,.int .u8 47] S R:=by
 refine az.lib (vs:=[.string ⟨s.toArray⟩,.int .u8 47]) (v:=.int .i64 (dx s 47)) (c:=.int .i64 (dx s 47)) (Go.Proofs.enters_of Tryz.func307 (by kernel_rfl) rfl) rfl rfl ?_ h
 intro w hb
 refine(Go.Proofs.Any.stringslite_IndexByte Go.Proofs.Tryz.lays217 ⟨s.toArray⟩ 47 w).mono ?_
 rintro e w' ⟨rfl,rfl⟩
 exact⟨rfl,l7 _ _⟩
theorem F8 (w0:World) (S:List aH) (s:List UInt8) (R:Rt) (h:R (.ret (.int .i64 (dx s 47))) S):az Tryz.prog w0 281 [.str s,.str [47]] S R:=by
 have hi:=fun S'=>M9 w0 S' s
 by_cases hs:s=[47]
 ·subst hs
  have h:R (.ret (.int .i64 0)) S:=h
  clear hi
  refine eN Tryz.func281 rfl Tryz.ntmps281 fun hO=>?_
  repeat' first | refine st ?_ | (refine br ?_ ?_<;>intro hb) | fail
  refine fR Tryz.results281 ?_
  exact h
 ·have hne:(([47]:List UInt8)==s)=false:=by
   rw [beq_eq_false_iff_ne]
   exact fun e=>hs e.symm
  generalize dx s 47=i at h hi
  clear hs
  refine eN Tryz.func281 rfl Tryz.ntmps281 fun hO=>?_
  repeat' first | refine st ?_ | (refine ca ?_;apply hi) | (refine br ?_ ?_<;>intro hb) | fail
  refine fR Tryz.results281 ?_
  exact h
theorem JW (w0:World) (S:List aH) (s:List UInt8) (R:Rt) (h:R (.ret (.int .i64 (dx s 47))) S):az Tryz.prog w0 318 [.str s,.str [47]] S R:=by
 have hi:=fun S'=>F8 w0 S' s
 generalize dx s 47=i at h hi
 refine eN Tryz.func318 rfl Tryz.ntmps318 fun hO=>?_
 repeat' first | refine st ?_ | (refine ca ?_;apply hi) | (refine br ?_ ?_<;>intro hb) | fail
 refine fR Tryz.results318 ?_
 exact h
def gi:List UInt8→List (List UInt8)
 | []=>[[]]
 | b::r=>if b=47 then []::gi r else match gi r with
  | []=>[[b]]
  | w::ws=>(b::w)::ws
theorem CT:∀ s,gi s≠[]
 | []=>by simp [gi]
 | b::r=>by
  unfold gi
  split
  ·simp
  ·split<;>simp
theorem zT:∀ {w r:List UInt8},(∀ b∈w,b≠47)→gi (w++47::r)=w::gi r
 | [],r,_=>by simp [gi]
 | b::w,r,h=>by
  have ih:=zT (w:=w) (r:=r) (fun x hx=>h x (by simp [hx]))
  simp only [al]
  rw [gi,if_neg (h b (by simp)),ih]
theorem zS:∀ {w:List UInt8},w.count 47=0→gi w=[w]
 | [],_=>rfl
 | b::w,h=>by
  have hb:b≠47:=by rintro rfl;simp at h
  rw [zH (by simpa using hb)] at h
  rw [gi,if_neg hb,zS h]
theorem Ij:∀ {s:List UInt8},0<s.count 47→∃ w r,s=w++47::r∧(∀ b∈w,b≠47)∧dx s 47=(w.length:Int)
 | [],h=>by simp at h
 | b::l,h=>by
  by_cases hb:b=47
  ·subst hb
   exact⟨[],l,rfl,by simp,by simp [dx]⟩
  ·rw [zH (by simpa using hb)] at h
   obtain⟨w,r,h1,h2,h3⟩:=Ij h
   refine⟨b::w,r,by rw [h1];rfl, ?_, ?_⟩
   ·intro x hx
    rcases dj.1 hx with rfl | hx
    ·exact hb
    ·exact h2 x hx
   ·have h1':(b==47)=false:=by simpa using hb
    rw [dx,h1',h3]
    simp
    try omega
def mL (D:List (List UInt8)) (k:Nat):List AV:=D.map AV.str++bL k (.str [])
theorem zX (D:List (List UInt8)) (k:Nat):(mL D (k+1))[D.length]? = some (.str []):=by
 unfold mL
 rw [aM (by simp)]
 simp
theorem zW (D:List (List UInt8)) (k:Nat) (w:List UInt8):(mL D (k+1)).set D.length (.str w)=mL (D++[w]) k:=by
 unfold mL
 rw [ef _ _ (by simp)]
 simp [mn]
theorem vd (D:List (List UInt8)) (k:Nat):(mL D k).length=D.length+k:=by
 unfold mL;simp
theorem tY (D:List (List UInt8)) (k:Nat):plainL (mL D k)=true:=by
 unfold mL
 induction D with
 | nil =>
  simp only [aL,ap]
  induction k with
  | zero=>rfl
  | succ k ih=>rw [mn,plainL,ih];rfl
 | cons d D ih=>simp only [aG,al,plainL,ih];rfl
theorem Kt (w0:World) (S:List aH) (s:List UInt8) (hs:s.length≤100000) (R:Rt) (h:∀ b,R (.ret (.sval b ((gi s).map AV.str))) S):az Tryz.prog w0 292 [.str s,.str [47],.int .i64 0,.int .i64 (-1)] S R:=by
 have hct:=fun S'=>Md w0 S' s
 have hcl:s.count 47≤s.length:=List.count_le_length
 obtain⟨c,hc⟩:∃ c,c=s.count 47:=⟨_,rfl⟩
 rw [← hc] at hct
 have w1:ar.wrap ((c:Int)+1)=((c+1:Nat):Int):=by rw [ay _ (by omega)];omega
 have w2:ar.wrap ((s.length:Int)+1)=((s.length+1:Nat):Int):=by rw [ay _ (by omega)];omega
 have hmn:(if ((s.length+1:Nat):Int)<((c+1:Nat):Int) then ((s.length+1:Nat):Int) else ((c+1:Nat):Int))=((c+1:Nat):Int):=by rw [if_neg (by omega)]
 have w3:ar.wrap (((c+1:Nat):Int) - 1)=(c:Int):=by rw [ay _ (by omega)];omega
 have b1:((c+1:Nat):Int) * 16≤140737488355328:=by omega
 have b2:((c+1:Nat):Int) * ((16:Nat):Int)≤140737488355328:=by omega
 have b3:((c+1:Nat):Int)≤((c+1:Nat):Int):=EU _
 have hrp:bL (c+1) (AV.str [])=mL [] (c+1):=rfl
 have H:=au h
 have Hs:=au (cD hs (cD hcl hc))
 clear h hs hcl hc
 refine eN Tryz.func292 rfl Tryz.ntmps292 fun hO=>?_
 repeat' first | refine st ?_ | (refine ca ?_;apply hct) | (refine br ?_ ?_<;>intro hb) | fail
 refine dX (fun (p:List (List UInt8) × List UInt8) env S'=>p.1++gi p.2=gi s∧p.1.length+p.2.count 47=c∧p.2.length≤s.length∧env 1000000=.dfr []∧env 0=.str p.2∧env 1=.str [47]∧env 2=.int .i64 0∧env 3=.int .i64 c∧env 9=.sown S.length 0 (c+1)∧env 10=.int .i64 (p.1.length:Int) ∧
  S'=S++[aH.arr 9 1 0 0 (mL p.1 (c+1 - p.1.length))]) (fun p=>p.2.length) ([],s) ?_ ?_
 ·obtain⟨hs,hcl,hc⟩:=Hs.out
  exact⟨rfl,by simp [hc],bg _,ss,ss,ss,ss,ss,ss,ss,rfl⟩
 ·rintro⟨D,u⟩ env S' ⟨hD,hDc,hul,e0,f0,f1,f2,f3,f9,f10,rfl⟩ IH
  simp only at hD hDc hul f0 f10
  have HI:=au IH
  obtain⟨hs,hcl,hc⟩:=Hs.out
  clear IH hct hrp hmn w1 w2 w3
  by_cases hu:0<u.count 47
  ·obtain⟨w,r,hwr,hw47,hix⟩:=Ij hu
   have hix2:=fun S'=>JW w0 S' u
   rw [hix] at hix2
   have hul2:u.length=w.length+1+r.length:=by rw [hwr];simp;omega
   have hcu:u.count 47=r.count 47+1:=by
    have hw0:w.count 47=0:=List.count_eq_zero.2 (fun hh=>hw47 47 hh rfl)
    rw [hwr,List.count_append,hw0,List.count_cons_self];omega
   have h1:decide ((D.length:Int)<(c:Int))=true:=by simp;omega
   have d1:decide ((w.length:Int)<0)=false:=by simp
   have k1:ar.wrap ((w.length:Int)+0)=((w.length:Nat):Int):=by rw [ay _ (by omega)];omega
   have k2:ar.wrap ((w.length:Int)+((1:Nat):Int))=((w.length+1:Nat):Int):=by rw [ay _ (by omega)];omega
   have k3:ar.wrap ((D.length:Int)+1)=((D.length+1:Nat):Int):=by rw [ay _ (by omega)];omega
   have l1:((w.length:Nat):Int)≤(u.length:Int):=by omega
   have l2:((w.length+1:Nat):Int)≤(u.length:Int):=by omega
   have t1:qR w.length u=w:=by rw [hwr];simp
   have t2:List.drop (w.length+1) u=r:=by rw [hwr,← List.drop_drop];simp
   have t3:qR u.length u=u:=bQ
   have q1:(D.length:Int)<((c+1:Nat):Int):=by omega
   have hk:c+1 - D.length=(c+1 - (D.length+1))+1:=by omega
   have hg:=zX D (c+1 - (D.length+1))
   have hse:=zW D (c+1 - (D.length+1)) w
   rw [← hk] at hg hse
   have hsl:=vd D (c+1 - D.length)
   rw [show D.length+(c+1 - D.length)=c+1 by omega] at hsl
   have hi1:(D++[w])++gi r=gi s:=by rw [← hD,hwr,zT hw47];simp
   have hi2:(D++[w]).length+r.count 47=c:=by simp;omega
   have hdl:(D++[w]).length=D.length+1:=by simp
   have Hi:=au (cD hi1 (cD hi2 (cD hdl (show r.length<u.length by omega))))
   have Hul:=au hul
   simp only
   generalize hE:mL D (c+1 - D.length)=E at *
   generalize hE1:mL (D++[w]) (c+1 - (D.length+1))=E1 at *
   have HE1:=au hE1
   clear hE hE1 hD hDc hul hs hcl hc hu hwr hw47 hix hul2 hcu hk hi1 hi2 hdl
   repeat' first | refine st ?_ | (refine ca ?_;apply hix2) | (refine br ?_ ?_<;>intro hb) | fail
   obtain⟨hi1,hi2,hdl,hrl⟩:=Hi.out
   rw [← HE1.out]
   refine HI.out (D++[w],r) _ _ hrl ⟨hi1,hi2,by have:=Hul.out;simp only;omega, ?_, ?_, ?_, ?_, ?_, ?_, ?_, ?_⟩
   ·(simp only [go_sem, *];try rfl)
   ·(simp only [go_sem, *];try rfl)
   ·(simp only [go_sem, *];try rfl)
   ·(simp only [go_sem, *];try rfl)
   ·(simp only [go_sem, *];try rfl)
   ·(simp only [go_sem, *];try rfl)
   ·simp only [hdl];(simp only [go_sem, *];try rfl)
   ·simp only [hdl]
  ·have hu0:u.count 47=0:=by omega
   have hDl:D.length=c:=by omega
   rw [zS hu0] at hD
   have h1:decide ((D.length:Int)<(c:Int))=false:=by simp;omega
   have k3:ar.wrap ((D.length:Int)+1)=((D.length+1:Nat):Int):=by rw [ay _ (by omega)];omega
   have q1:(D.length:Int)<((c+1:Nat):Int):=by omega
   have hk:c+1 - D.length=0+1:=by omega
   have hg:=zX D 0
   have hse:=zW D 0 u
   rw [← hk] at hg hse
   have hsl:=vd D (c+1 - D.length)
   rw [show D.length+(c+1 - D.length)=c+1 by omega] at hsl
   have hE2:mL (D++[u]) 0=(gi s).map AV.str:=by rw [hD];simp [mL]
   rw [hE2] at hse
   have hh:=H.out
   have hpl:plainL ((gi s).map AV.str)=true:=by rw [← hE2];exact tY _ _
   have hl2:((gi s).map AV.str).length=c+1:=by rw [← hE2,vd];simp;omega
   have hall:((gi s).map AV.str).all (fun el=>el.cells.length==1)=true:=by
    rw [aF]
    intro x hx
    obtain⟨y,_,rfl⟩:=aX.1 hx
    rfl
   simp only [AV.cells] at hall
   have q2:((D.length+1:Nat):Int)≤((c+1:Nat):Int):=by omega
   have htk:qR (D.length+1) ((gi s).map AV.str)=(gi s).map AV.str:=dW (by omega)
   have hlt:ltL S.length ((gi s).map AV.str)=true:=dC.2 fun x hx=>by obtain⟨y,_,rfl⟩:=aX.1 hx;rfl
   simp only
   generalize hE:mL D (c+1 - D.length)=E at *
   generalize (gi s).map AV.str=F at *
   clear hE hE2 hD hDc hul hs hcl hc hu hk HI hu0 hDl
   repeat' first | refine st ?_ | (refine br ?_ ?_<;>intro hb) | fail
   refine mE (t:=62) (a:=S.length) (by decide) ss ss ?_
   repeat' first | refine st ?_ | (refine br ?_ ?_<;>intro hb) | fail
   refine fR Tryz.results292 ?_
   exact hh _
end Go.Proofs.YthdbijpefkapnaaGreatDoor
