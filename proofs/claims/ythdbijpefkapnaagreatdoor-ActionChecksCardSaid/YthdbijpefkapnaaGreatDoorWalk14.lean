/- YthdbijpefkapnaaGreatDoorWalk14. Texts of the proof of a law about texts: a layer of abstract values above the worlds, the types, the walks of the functions that the law reaches, the law and its card. Own work of an AI agent. -/
import Derived.Test.YthdbijpefkapnaaGreatDoorWalk12
import Derived.Test.YthdbijpefkapnaaGreatDoorCore4
set_option linter.all false
set_option maxHeartbeats 40000000
open Go.IntKind renaming i64 → ar
open Go.IntWalk renaming i64_in → ay
open Go.Lib renaming hid → au
open List renaming take → qR, take_length → bQ, take_take → tq
open Nat renaming min_comm → yd
namespace Go.Proofs.YthdbijpefkapnaaGreatDoor
open Go Go.Fen
attribute [local irreducible] ba WP az dI ie cU aR cw
set_option maxRecDepth 8000
def G5 (ak an am ack acn:Int) (s:List UInt8) (bk bn bm bck bcn:Int) (bt:List UInt8) (v:Int):Nat→List AV
 | 0=>[.int .i64 ak,.int .i64 an,.int .i64 am,.int .i64 ack,.int .i64 acn,.str s,.int .i64 bk,.int .i64 bn,.int .i64 bm,.int .i64 bck,.int .i64 bcn,.str bt,.int .i64 bk,.int .i64 bn,.int .i64 bm,.int .i64 bck,.int .i64 bcn,.str bt,.int .i64 bk,.int .i64 bn,.int .i64 bm,.int .i64 bck,.int .i64 bcn,.str bt,.int .i64 bk,.int .i64 bn,.int .i64 bm,.int .i64 bck,.int .i64 bcn,.str bt,.int .i64 bk,.int .i64 bn,.int .i64 bm,.int .i64 bck,.int .i64 bcn,.str bt]
 | 1=>[.int .i64 ak,.int .i64 an,.int .i64 am,.int .i64 ack,.int .i64 acn,.str s,.int .i64 bk,.int .i64 v,.int .i64 bm,.int .i64 bck,.int .i64 bcn,.str bt,.int .i64 bk,.int .i64 bn,.int .i64 bm,.int .i64 bck,.int .i64 bcn,.str bt,.int .i64 bk,.int .i64 bn,.int .i64 bm,.int .i64 bck,.int .i64 bcn,.str bt,.int .i64 bk,.int .i64 bn,.int .i64 bm,.int .i64 bck,.int .i64 bcn,.str bt,.int .i64 bk,.int .i64 bn,.int .i64 bm,.int .i64 bck,.int .i64 bcn,.str bt]
 | 2=>[.int .i64 ak,.int .i64 an,.int .i64 am,.int .i64 ack,.int .i64 acn,.str s,.int .i64 bk,.int .i64 v,.int .i64 bm,.int .i64 bck,.int .i64 bcn,.str bt,.int .i64 bk,.int .i64 bn,.int .i64 v,.int .i64 bck,.int .i64 bcn,.str bt,.int .i64 bk,.int .i64 bn,.int .i64 bm,.int .i64 bck,.int .i64 bcn,.str bt,.int .i64 bk,.int .i64 bn,.int .i64 bm,.int .i64 bck,.int .i64 bcn,.str bt,.int .i64 bk,.int .i64 bn,.int .i64 bm,.int .i64 bck,.int .i64 bcn,.str bt]
 | 3=>[.int .i64 ak,.int .i64 an,.int .i64 am,.int .i64 ack,.int .i64 acn,.str s,.int .i64 bk,.int .i64 v,.int .i64 bm,.int .i64 bck,.int .i64 bcn,.str bt,.int .i64 bk,.int .i64 bn,.int .i64 v,.int .i64 bck,.int .i64 bcn,.str bt,.int .i64 ak,.int .i64 bn,.int .i64 bm,.int .i64 bck,.int .i64 bcn,.str bt,.int .i64 bk,.int .i64 bn,.int .i64 bm,.int .i64 bck,.int .i64 bcn,.str bt,.int .i64 bk,.int .i64 bn,.int .i64 bm,.int .i64 bck,.int .i64 bcn,.str bt]
 | _=>[.int .i64 ak,.int .i64 an,.int .i64 am,.int .i64 ack,.int .i64 acn,.str s,.int .i64 bk,.int .i64 v,.int .i64 bm,.int .i64 bck,.int .i64 bcn,.str bt,.int .i64 bk,.int .i64 bn,.int .i64 v,.int .i64 bck,.int .i64 bcn,.str bt,.int .i64 ak,.int .i64 bn,.int .i64 bm,.int .i64 bck,.int .i64 bcn,.str bt,.int .i64 bk,.int .i64 bn,.int .i64 bm,.int .i64 ack,.int .i64 acn,.str bt,.int .i64 bk,.int .i64 bn,.int .i64 bm,.int .i64 bck,.int .i64 bcn,.str bt]
theorem GD (w0:World) (hB:lx w0) (S:List aH) (a:Ac) (v:Int) (k n m rgb:Nat) (t:List UInt8) (ham:uI a.m) (hv:uI v) (hn:n<65536) (hm:m<65536) (R:Rt) (h:R (.ret (.bool true)) S):az Tryz.prog w0 3 [a.av,bf k n m rgb t,.int .i64 v] S R:=by
 have hwk:=vG w0 hB
 have hd:=fun S'=>w9 w0 S' k n m rgb t hn hm
 have hA:∀ S' (k n m ck cn:Int) (t:List UInt8),uI m→t.length≤10000→∀ R:ed→List aH→Prop,R (.ret (.int .i64 (if dU ⟨k,n,m,ck,cn,t⟩ then 0 else 200))) S'→az Tryz.prog w0 11 [.agg [.int .i64 k,.int .i64 n,.int .i64 m,.int .i64 ck,.int .i64 cn,.str t]] S' R:=fun S' k n m ck cn t h1 h2 R h=>ng w0 hB.hM hB.hW hB.hQ S' ⟨k,n,m,ck,cn,t⟩ h1 h2 R h
 have hC:∀ S' (k n m ck cn:Int) (t:List UInt8),t.length≤10000→∀ R:ed→List aH→Prop,R (.ret (.int .i64 (if dU ⟨k,n,m,ck,cn,t⟩ then 0 else 200))) S'→az Tryz.prog w0 12 [.agg [.int .i64 k,.int .i64 n,.int .i64 m,.int .i64 ck,.int .i64 cn,.str t]] S' R:=fun S' k n m ck cn t h2 R h=>Dm w0 S' ⟨k,n,m,ck,cn,t⟩ h2 R h
 have H:=au h
 have i0:uI 0:=by unfold uI;decide
 clear h hB hn hm
 obtain⟨ak,an,am,ack,acn,tx⟩:=a
 have hmn:(if (600:Int)<(tx.length:Int) then 600 else (tx.length:Int))=((min tx.length 600:Nat):Int):=by split<;>omega
 have hm2:((min tx.length 600:Nat):Int)≤(tx.length:Int):=by omega
 have hq:qR (min tx.length 600) tx=tx.take 600:=by rw [yd,← tq,bQ]
 have hl:(tx.take 600).length≤10000:=by simp;omega
 generalize tx.take 600=s at hq hl
 simp only [Ac.av] at ham ⊢
 unfold bf at hd ⊢
 refine eN Tryz.func3 rfl Tryz.ntmps3 fun hO=>?_
 repeat' ((fail_if_success (apply bA 4));first | refine st ?_ | (refine ca ?_;apply hd) | (refine br ?_ ?_<;>intro hb) | fail)
 clear hmn hm2 hq hd
 intro b ⟨g1,g2,g3,g4⟩
 obtain⟨bk,bn,bm,bck,bcn,bt⟩:=b
 simp only at g1 g2 g3 g4
 have ibm:uI bm:=by unfold uI;omega
 have hbl:bt.length≤10000:=by omega
 clear g1 g2 g3 g4
 have HO:=au hO
 clear hO
 simp only [Ac.av,aR,putA]
 repeat' ((fail_if_success (apply bA 4));first | refine st ?_ | (refine br ?_ ?_<;>intro hb) | fail)
 have cl:∀ q,G5 ak an am ack acn s bk bn bm bck bcn bt v q=G5 ak an am ack acn s bk bn bm bck bcn bt v q:=fun _=>rfl
 refine eR (n:=18) mixed rfl ?_
 refine Ay [some (30,.int .i64 v),some (31,.int .i64 v),some (32,.own S.length 0),some (33,.int .i64 ak),some (34,.own S.length 3),some (35,.agg [.int .i64 ack,.int .i64 acn]),some (36,.own (S.length+3) 6),some (37,.own (S.length+3) 7),none,some (38,.own (S.length+3) 12),some (39,.own (S.length+3) 14),none,some (40,.own (S.length+3) 18),some (41,.own (S.length+3) 18),none,some (42,.own (S.length+3) 24),some (43,.own (S.length+3) 27),none] (fun q=>S++[.cells [.int .i64 ak,.int .i64 an,.int .i64 am,.int .i64 ack,.int .i64 acn,.str s] none,.cells [.int .u16 k,.int .u16 n,.int .u16 m,.int .u32 rgb,.str t] none,.cells [.int .i64 bk,.int .i64 bn,.int .i64 bm,.int .i64 bck,.int .i64 bcn,.str bt] none,.cells (G5 ak an am ack acn s bk bn bm bck bcn bt v q) none]) 4 rfl rfl rfl rfl (by decide +kernel) (by kernel_rfl) ⟨?s0, ?s1, ?s2, ?s3, ?s4, ?s5, ?s6, ?s7, ?s8, ?s9, ?s10, ?s11, ?s12, ?s13, ?s14, ?s15, ?s16, ?s17,trivial⟩ ?z
 case s0 | s1 | s2 | s4 | s6 | s9 | s12 | s15 =>
  intro q hq env hd
  clear hq
  have q2:=hd.2 2 rfl
  have q3:=hd.2 3 rfl
  have q8:=hd.2 8 rfl
  simp only [go_sem, *] at q2 q3 q8
  clear hd
  repeat' first | refine st ?_ | (refine br ?_ ?_<;>intro hb) | refine sd ?_ | apply aE | (apply aO;(· decide +kernel)) | refine bd ?_ ?_ | fail
  first | exact⟨rfl,rfl⟩ | exact⟨trivial,trivial⟩ | exact⟨trivial,rfl⟩
 case s3 =>
  intro q hq env hd
  clear hq
  have r2:=hd.1 2 (by decide +kernel) _ _ rfl
  have q2:=hd.2 2 rfl
  have q3:=hd.2 3 rfl
  have q8:=hd.2 8 rfl
  simp only [go_sem, *] at q2 q3 q8
  clear hd
  repeat' first | refine st ?_ | (refine br ?_ ?_<;>intro hb) | refine sd ?_ | apply aE | (apply aO;(· decide +kernel)) | refine bd ?_ ?_ | fail
  first | exact⟨rfl,rfl⟩ | exact⟨trivial,trivial⟩ | exact⟨trivial,rfl⟩
 case s5 =>
  intro q hq env hd
  clear hq
  have r4:=hd.1 4 (by decide +kernel) _ _ rfl
  have q2:=hd.2 2 rfl
  have q3:=hd.2 3 rfl
  have q8:=hd.2 8 rfl
  simp only [go_sem, *] at q2 q3 q8
  clear hd
  repeat' first | refine st ?_ | (refine br ?_ ?_<;>intro hb) | refine sd ?_ | apply aE | (apply aO;(· decide +kernel)) | refine bd ?_ ?_ | fail
  first | exact⟨rfl,rfl⟩ | exact⟨trivial,trivial⟩ | exact⟨trivial,rfl⟩
 case s7 =>
  intro q hq env hd
  clear hq
  have r6:=hd.1 6 (by decide +kernel) _ _ rfl
  have q2:=hd.2 2 rfl
  have q3:=hd.2 3 rfl
  have q8:=hd.2 8 rfl
  simp only [go_sem, *] at q2 q3 q8
  clear hd
  repeat' first | refine st ?_ | (refine br ?_ ?_<;>intro hb) | refine sd ?_ | apply aE | (apply aO;(· decide +kernel)) | refine bd ?_ ?_ | fail
  first | exact⟨rfl,rfl⟩ | exact⟨trivial,trivial⟩ | exact⟨trivial,rfl⟩
 case s8 =>
  intro env hd
  show ie _ _ _ _ _ _ _ env (S++[_,_,_,.cells [.int .i64 ak,.int .i64 an,.int .i64 am,.int .i64 ack,.int .i64 acn,.str s,.int .i64 bk,.int .i64 bn,.int .i64 bm,.int .i64 bck,.int .i64 bcn,.str bt,.int .i64 bk,.int .i64 bn,.int .i64 bm,.int .i64 bck,.int .i64 bcn,.str bt,.int .i64 bk,.int .i64 bn,.int .i64 bm,.int .i64 bck,.int .i64 bcn,.str bt,.int .i64 bk,.int .i64 bn,.int .i64 bm,.int .i64 bck,.int .i64 bcn,.str bt,.int .i64 bk,.int .i64 bn,.int .i64 bm,.int .i64 bck,.int .i64 bcn,.str bt] none])
  have r7:=hd.1 7 (by decide +kernel) _ _ rfl
  have r0:=hd.1 0 (by decide +kernel) _ _ rfl
  have q2:=hd.2 2 rfl
  have q3:=hd.2 3 rfl
  have q8:=hd.2 8 rfl
  simp only [go_sem, *] at q2 q3 q8
  clear hd
  repeat' first | refine st ?_ | (refine br ?_ ?_<;>intro hb) | refine sd ?_ | apply aE | (apply aO;(· decide +kernel)) | refine bd ?_ ?_ | fail
  first | exact⟨rfl,rfl⟩ | exact⟨trivial,trivial⟩ | exact⟨trivial,rfl⟩
 case s10 =>
  intro q hq env hd
  clear hq
  have r9:=hd.1 9 (by decide +kernel) _ _ rfl
  have q2:=hd.2 2 rfl
  have q3:=hd.2 3 rfl
  have q8:=hd.2 8 rfl
  simp only [go_sem, *] at q2 q3 q8
  clear hd
  repeat' first | refine st ?_ | (refine br ?_ ?_<;>intro hb) | refine sd ?_ | apply aE | (apply aO;(· decide +kernel)) | refine bd ?_ ?_ | fail
  first | exact⟨rfl,rfl⟩ | exact⟨trivial,trivial⟩ | exact⟨trivial,rfl⟩
 case s11 =>
  intro env hd
  show ie _ _ _ _ _ _ _ env (S++[_,_,_,.cells [.int .i64 ak,.int .i64 an,.int .i64 am,.int .i64 ack,.int .i64 acn,.str s,.int .i64 bk,.int .i64 v,.int .i64 bm,.int .i64 bck,.int .i64 bcn,.str bt,.int .i64 bk,.int .i64 bn,.int .i64 bm,.int .i64 bck,.int .i64 bcn,.str bt,.int .i64 bk,.int .i64 bn,.int .i64 bm,.int .i64 bck,.int .i64 bcn,.str bt,.int .i64 bk,.int .i64 bn,.int .i64 bm,.int .i64 bck,.int .i64 bcn,.str bt,.int .i64 bk,.int .i64 bn,.int .i64 bm,.int .i64 bck,.int .i64 bcn,.str bt] none])
  have r10:=hd.1 10 (by decide +kernel) _ _ rfl
  have r1:=hd.1 1 (by decide +kernel) _ _ rfl
  have q2:=hd.2 2 rfl
  have q3:=hd.2 3 rfl
  have q8:=hd.2 8 rfl
  simp only [go_sem, *] at q2 q3 q8
  clear hd
  repeat' first | refine st ?_ | (refine br ?_ ?_<;>intro hb) | refine sd ?_ | apply aE | (apply aO;(· decide +kernel)) | refine bd ?_ ?_ | fail
  first | exact⟨rfl,rfl⟩ | exact⟨trivial,trivial⟩ | exact⟨trivial,rfl⟩
 case s13 =>
  intro q hq env hd
  clear hq
  have r12:=hd.1 12 (by decide +kernel) _ _ rfl
  have q2:=hd.2 2 rfl
  have q3:=hd.2 3 rfl
  have q8:=hd.2 8 rfl
  simp only [go_sem, *] at q2 q3 q8
  clear hd
  repeat' first | refine st ?_ | (refine br ?_ ?_<;>intro hb) | refine sd ?_ | apply aE | (apply aO;(· decide +kernel)) | refine bd ?_ ?_ | fail
  first | exact⟨rfl,rfl⟩ | exact⟨trivial,trivial⟩ | exact⟨trivial,rfl⟩
 case s14 =>
  intro env hd
  show ie _ _ _ _ _ _ _ env (S++[_,_,_,.cells [.int .i64 ak,.int .i64 an,.int .i64 am,.int .i64 ack,.int .i64 acn,.str s,.int .i64 bk,.int .i64 v,.int .i64 bm,.int .i64 bck,.int .i64 bcn,.str bt,.int .i64 bk,.int .i64 bn,.int .i64 v,.int .i64 bck,.int .i64 bcn,.str bt,.int .i64 bk,.int .i64 bn,.int .i64 bm,.int .i64 bck,.int .i64 bcn,.str bt,.int .i64 bk,.int .i64 bn,.int .i64 bm,.int .i64 bck,.int .i64 bcn,.str bt,.int .i64 bk,.int .i64 bn,.int .i64 bm,.int .i64 bck,.int .i64 bcn,.str bt] none])
  have r13:=hd.1 13 (by decide +kernel) _ _ rfl
  have r3:=hd.1 3 (by decide +kernel) _ _ rfl
  have q2:=hd.2 2 rfl
  have q3:=hd.2 3 rfl
  have q8:=hd.2 8 rfl
  simp only [go_sem, *] at q2 q3 q8
  clear hd
  repeat' first | refine st ?_ | (refine br ?_ ?_<;>intro hb) | refine sd ?_ | apply aE | (apply aO;(· decide +kernel)) | refine bd ?_ ?_ | fail
  first | exact⟨rfl,rfl⟩ | exact⟨trivial,trivial⟩ | exact⟨trivial,rfl⟩
 case s16 =>
  intro q hq env hd
  clear hq
  have r15:=hd.1 15 (by decide +kernel) _ _ rfl
  have q2:=hd.2 2 rfl
  have q3:=hd.2 3 rfl
  have q8:=hd.2 8 rfl
  simp only [go_sem, *] at q2 q3 q8
  clear hd
  repeat' first | refine st ?_ | (refine br ?_ ?_<;>intro hb) | refine sd ?_ | apply aE | (apply aO;(· decide +kernel)) | refine bd ?_ ?_ | fail
  first | exact⟨rfl,rfl⟩ | exact⟨trivial,trivial⟩ | exact⟨trivial,rfl⟩
 case s17 =>
  intro env hd
  show ie _ _ _ _ _ _ _ env (S++[_,_,_,.cells [.int .i64 ak,.int .i64 an,.int .i64 am,.int .i64 ack,.int .i64 acn,.str s,.int .i64 bk,.int .i64 v,.int .i64 bm,.int .i64 bck,.int .i64 bcn,.str bt,.int .i64 bk,.int .i64 bn,.int .i64 v,.int .i64 bck,.int .i64 bcn,.str bt,.int .i64 ak,.int .i64 bn,.int .i64 bm,.int .i64 bck,.int .i64 bcn,.str bt,.int .i64 bk,.int .i64 bn,.int .i64 bm,.int .i64 bck,.int .i64 bcn,.str bt,.int .i64 bk,.int .i64 bn,.int .i64 bm,.int .i64 bck,.int .i64 bcn,.str bt] none])
  have r16:=hd.1 16 (by decide +kernel) _ _ rfl
  have r5:=hd.1 5 (by decide +kernel) _ _ rfl
  have q2:=hd.2 2 rfl
  have q3:=hd.2 3 rfl
  have q8:=hd.2 8 rfl
  simp only [go_sem, *] at q2 q3 q8
  clear hd
  repeat' first | refine st ?_ | (refine br ?_ ?_<;>intro hb) | refine sd ?_ | apply aE | (apply aO;(· decide +kernel)) | refine bd ?_ ?_ | fail
  first | exact⟨rfl,rfl⟩ | exact⟨trivial,trivial⟩ | exact⟨trivial,rfl⟩
 case z =>
  intro env hs hk
  have q2:=hk 2 rfl
  have q3:=hk 3 rfl
  have q7:=hk 7 rfl
  have q8:=hk 8 rfl
  have q9:=hk 1000000 rfl
  clear hs hk
  simp only [go_sem, *] at q2 q3 q7 q8 q9
  simp only [G5]
  repeat' first | refine st ?_ | (refine br ?_ ?_<;>intro hb) | fail
  apply cP
  repeat' first | refine st ?_ | (refine ca ?_;first | (apply hA;(iterate 2 (· simp only [go_sem, *];try rfl))) | (apply hC;(· simp only [go_sem, *];try rfl))) | (refine br ?_ ?_<;>intro hb) | refine sd ?_ | apply aE | (apply aO;(· decide +kernel)) | refine bd ?_ ?_ | (refine cd ?_;first | (apply hA;(iterate 2 (· simp only [go_sem, *];try rfl))) | (apply hC;(· simp only [go_sem, *];try rfl))) | fail
  iterate 6
   apply eg
   repeat' first | refine st ?_ | (refine ca ?_;first | (apply hA;(iterate 2 (· simp only [go_sem, *];try rfl))) | (apply hC;(· simp only [go_sem, *];try rfl))) | (refine br ?_ ?_<;>intro hb) | refine sd ?_ | apply aE | (apply aO;(· decide +kernel)) | refine bd ?_ ?_ | (refine cd ?_;first | (apply hA;(iterate 2 (· simp only [go_sem, *];try rfl))) | (apply hC;(· simp only [go_sem, *];try rfl))) | fail
  refine dX (fun (i:Nat) env S'=>i≤48∧env 1000000=.dfr []∧env 2=.int .i64 v∧env 3=.own S.length 0∧env 7=.own (S.length+2) 0∧env 10=.int .i64 (i:Int)∧S'=S++[.cells [.int .i64 ak,.int .i64 an,.int .i64 am,.int .i64 ack,.int .i64 acn,.str s] none,.cells [.int .u16 k,.int .u16 n,.int .u16 m,.int .u32 rgb,.str t] none,.cells [.int .i64 bk,.int .i64 bn,.int .i64 bm,.int .i64 bck,.int .i64 bcn,.str bt] none,.cells [.int .i64 ak,.int .i64 an,.int .i64 am,.int .i64 ack,.int .i64 acn,.str s,.int .i64 bk,.int .i64 v,.int .i64 bm,.int .i64 bck,.int .i64 bcn,.str bt,.int .i64 bk,.int .i64 bn,.int .i64 v,.int .i64 bck,.int .i64 bcn,.str bt,.int .i64 ak,.int .i64 bn,.int .i64 bm,.int .i64 bck,.int .i64 bcn,.str bt,.int .i64 bk,.int .i64 bn,.int .i64 bm,.int .i64 ack,.int .i64 acn,.str bt,.int .i64 bk,.int .i64 bn,.int .i64 bm,.int .i64 bck,.int .i64 bcn,.str bt] none]) (fun i=>48 - i) 0 ?_ ?_
  ·exact⟨by omega,ss,ss,ss,ss,ss,ss⟩
  ·rintro i env S' ⟨hi,e0,e2,e3,e7,e10,rfl⟩ IH
   clear q2 q3 q7 q8 q9
   have HI:=au IH
   clear IH
   by_cases hlt:i<48
   ·have h1:decide ((i:Int)≤47)=true:=by simp only [decide_eq_true_eq];omega
    have hw:ar.wrap ((i:Int)+1)=((i+1:Nat):Int):=by rw [ay _ (by omega)];omega
    have Hi:=au hlt
    clear hlt hi
    repeat' first | refine st ?_ | (refine br ?_ ?_<;>intro hb) | fail
    apply cP
    repeat' first | refine st ?_ | (refine ca ?_;first | (apply hA;(iterate 2 (· simp only [go_sem, *];try rfl))) | (apply hC;(· simp only [go_sem, *];try rfl))) | (refine br ?_ ?_<;>intro hb) | refine sd ?_ | apply aE | (apply aO;(· decide +kernel)) | refine bd ?_ ?_ | (refine cd ?_;first | (apply hA;(iterate 2 (· simp only [go_sem, *];try rfl))) | (apply hC;(· simp only [go_sem, *];try rfl))) | fail
    iterate 3
     apply eg
     repeat' first | refine st ?_ | (refine ca ?_;first | (apply hA;(iterate 2 (· simp only [go_sem, *];try rfl))) | (apply hC;(· simp only [go_sem, *];try rfl))) | (refine br ?_ ?_<;>intro hb) | refine sd ?_ | apply aE | (apply aO;(· decide +kernel)) | refine bd ?_ ?_ | (refine cd ?_;first | (apply hA;(iterate 2 (· simp only [go_sem, *];try rfl))) | (apply hC;(· simp only [go_sem, *];try rfl))) | fail
    refine fq HO.out 4 [2,3,7,10] rfl ss ss ss ?_
    refine HI.out (i+1) _ _ (by have:=Hi.out;omega) ⟨by have:=Hi.out;omega,ss,ss,ss,ss,ss,ss⟩
   ·have h1:decide ((i:Int)≤47)=false:=by simp only [decide_eq_false_iff_not];omega
    clear hlt hi HI
    repeat' first | refine st ?_ | (refine ca ?_;apply hwk) | (refine br ?_ ?_<;>intro hb) | fail
    refine fR Tryz.results3 ?_
    exact H.out
end Go.Proofs.YthdbijpefkapnaaGreatDoor
