/- YthdbijpefkapnaaGreatDoorWalk3. Texts of the proof of a law about texts: a layer of abstract values above the worlds, the types, the walks of the functions that the law reaches, the law and its card. Own work of an AI agent. -/
import Derived.Test.YthdbijpefkapnaaGreatDoorWalk2
import Derived.Test.YthdbijpefkapnaaGreatDoorWalk0
import Derived.Test.YthdbijpefkapnaaGreatDoorCore3
set_option linter.all false
set_option maxHeartbeats 40000000
open And renaming intro → cD
open Bool renaming and_eq_true → aB, and_false → cH, and_true → dh, eq_false_iff → mr, eq_iff_iff → dT, false_and → bX, false_eq_true → du, false_or → kZ, not_eq_false' → aA, not_eq_true' → ax, not_true → cC, or_eq_true → fc, or_false → gh, true_and → cA
open Go.IntKind renaming i64 → ar, u8 → bo
open Go.IntWalk renaming i64_in → ay, u8_in → eo
open Go.Lib renaming hid → au, itoa → cO
open List renaming all_eq_true → aF, any_cons → fo, any_nil → gG, append_assoc → ai, append_nil → aP, getElem?_eq_getElem → aC, getElem?_eq_none → cT, getElem?_eq_some_iff → aw, getElem?_map → aQ, getElem?_of_mem → bh, length → lz, length_append → ab, length_drop → zE, map_append → co, map_cons → aG, map_nil → aL, mem_map → aX, mem_of_getElem? → aI, replicate → bL, take_add_one → pI, take_length → bQ, take_succ_cons → ae, take_zero → ao, toList_toArray → aU
open Nat renaming mod_lt → fa, pow_le_pow_right → gx, zero_le → bI
open UInt8 renaming ofNat → aN, toNat → aV
namespace Go.Proofs.YthdbijpefkapnaaGreatDoor
open Go Go.Fen
attribute [local irreducible] ba WP az dI ie cU aR cw
set_option maxRecDepth 8000
theorem Lo (w0:World) (S:List aH) (s:List UInt8) (hs:s.length≤100000) (R:Rt) (h:R (.ret (.str (gY s))) S):az Tryz.prog w0 180 [.str s] S R:=by
 have hel:(gY s).length=(8 * s.length+5) / 6:=by unfold gY;simp [pq]
 have hlm:ar.wrap (8 * (s.length:Int))=((8 * s.length:Nat):Int):=by rw [ay _ (by omega)];omega
 obtain⟨t,ht⟩:∃ t,s.map aV=t:=⟨_,rfl⟩
 have hat:=fun j hj=>GW (s:=s) (j:=j) hj
 rw [ht] at hat
 obtain⟨L,hL⟩:∃ L,gY s=L:=⟨_,rfl⟩
 rw [hL] at h hel hat
 have Hat:=au hat
 clear hat hL
 refine eN Tryz.func180 rfl Tryz.ntmps180 fun hO=>?_
 repeat' first | refine st ?_ | (refine br ?_ ?_<;>intro hb) | fail
 refine nW (t:=3) 5 1 ss (by decide) ?_
 try simp only [go_sem, *]
 refine dX (fun (j:Nat) env S'=>j≤L.length∧env 1000000=.dfr []∧env 0=.str s∧env 3=.sown S.length j j∧env 4=.int .i64 ((6 * j:Nat):Int) ∧
  S'=S++[.arr 5 1 0 j ((L.take j).map iI)]) (fun j=>L.length - j) 0 ?_ ?_
 ·exact⟨bI _,ss,ss,ss,ss,rfl⟩
 ·rintro j env S' ⟨hj,e0,f0,f3,f4,rfl⟩ IH
  have HI:=au IH
  have H:=au h
  clear IH h
  by_cases hlt:j<L.length
  ·have hlt8:6 * j<8 * s.length:=by omega
   have d0:decide (((6 * j:Nat):Int)<((8 * s.length:Nat):Int))=true:=by simp;omega
   have hw6:ar.wrap (((6 * j:Nat):Int)+6)=((6 * (j+1):Nat):Int):=by rw [ay _ (by omega)];omega
   have hlen:((L.take j).map iI).length=j:=by simp;omega
   have hjn:j≤1000000:=by omega
   repeat' first | refine st ?_ | (refine br ?_ ?_<;>intro hb) | fail
   refine dX (fun (k:Nat) env2 S2=>k≤6∧env2 1000000=.dfr []∧env2 0=.str s∧env2 3=.sown S.length j j∧env2 4=.int .i64 ((6 * j:Nat):Int)∧env2 5=.int .i64 (FU t (6 * j) k:Nat)∧env2 6=.int .i64 ((6 * j+k:Nat):Int) ∧
    S2=S++[.arr 5 1 0 j ((L.take j).map iI)]) (fun k=>6 - k) 0 ?_ ?_
   ·exact⟨bI _,ss,ss,ss,ss,ss,ss,rfl⟩
   ·rintro k env2 S2 ⟨hk,g0,h0,h3,h4,h5,h6,rfl⟩ IH2
    have HI2:=au IH2
    clear IH2 e0 f0 f3 f4
    by_cases hk6:k<6
    ·have d1:decide (((6 * j+k:Nat):Int)<((6 * (j+1):Nat):Int))=true:=by simp;omega
     have hp:=yJ t (6 * j) k
     have hp6:2 ^ k≤64:=gx (by decide:2>0) (show k≤6 from hk)
     have hps:FU t (6 * j) (k+1)=2 * FU t (6 * j) k+k9 t (6 * j+k):=rfl
     generalize FU t (6 * j) k=n at h5 hp hps
     have hwk:ar.wrap (((6 * j+k:Nat):Int)+1)=((6 * j+(k+1):Nat):Int):=by rw [ay _ (by omega)];omega
     have hq:ar.wrap (((6 * j+k:Nat):Int).tdiv 8)=(((6 * j+k) / 8:Nat):Int):=A0 _ 8 (by omega)
     have hm:((6 * j+k:Nat):Int).tmod 8=(((6 * j+k) % 8:Nat):Int):=gm _ 8
     have hm8:(6 * j+k) % 8<8:=fa _ (by decide)
     have k1:ar.wrap (2 * (n:Int))=((2 * n:Nat):Int):=by rw [ay _ (by omega)];omega
     by_cases hin:(6 * j+k) / 8<s.length
     ·obtain⟨c,hx⟩:∃ c,s[(6 * j+k) / 8]? = some c:=⟨_,aC hin⟩
      have hct:c.toNat<256:=c.toNat_lt
      have hb:k9 t (6 * j+k)=c.toNat / 2 ^ (7 - (6 * j+k) % 8) % 2:=by
       unfold k9
       rw [← ht,aQ,hx]
       rfl
      rw [hb] at hps
      have d2:decide ((((6 * j+k) / 8:Nat):Int)<(s.length:Int))=true:=by simp;omega
      have hpa:=Jn _ hm8
      obtain⟨m,hmm⟩:∃ m,(6 * j+k) % 8=m:=⟨_,rfl⟩
      obtain⟨w,hww⟩:∃ w,2 ^ (7 - m)=w:=⟨_,rfl⟩
      rw [hmm] at hm hpa hps
      rw [hww] at hpa hps
      obtain⟨rr,hdr⟩:∃ rr,List.drop m ([AV.int .i64 128,.int .i64 64,.int .i64 32,.int .i64 16,.int .i64 8,.int .i64 4,.int .i64 2,.int .i64 1]:List AV)=.int .i64 (w:Int)::rr:=by
       obtain⟨g1,g2⟩:=aw.1 hpa
       exact⟨_,by rw [List.drop_eq_getElem_cons g1,g2]⟩
      have hdr1:List.drop (m * 1) ([AV.int .i64 128,.int .i64 64,.int .i64 32,.int .i64 16,.int .i64 8,.int .i64 4,.int .i64 2,.int .i64 1]:List AV)=.int .i64 (w:Int)::rr:=by rw [Nat.mul_one];exact hdr
      have hmi:(m:Int)<8:=by omega
      have hmi2:(m:Int)<((8:Nat):Int):=by omega
      have hw0:0<w:=by rw [← hww];exact Nat.pos_of_ne_zero (by simp)
      have hwz:((w:Int)=0)=False:=by simp;omega
      have kc:ar.wrap (c.toNat:Int)=(c.toNat:Int):=ay _ (by omega)
      have k2:ar.wrap ((c.toNat:Int).tdiv (w:Int))=((c.toNat / w:Nat):Int):=A0 _ w (by omega)
      have k3:((c.toNat / w:Nat):Int).tmod 2=((c.toNat / w % 2:Nat):Int):=gm _ 2
      have hb2:c.toNat / w % 2<2:=fa _ (by decide)
      have k4:ar.wrap (((2 * n:Nat):Int)+((c.toNat / w % 2:Nat):Int))=((2 * n+c.toNat / w % 2:Nat):Int):=by rw [ay _ (by omega)];omega
      have Hf:=au (cD hk6 hps)
      have HH:=au (cD hlt (cD hjn hlen))
      clear hpa hk hk6 hp hp6 hps hm8 hin hct hb hmm hww hw0 hb2 ht hel hs hlt hlt8 hj hjn
      repeat' first | refine st ?_ | (refine br ?_ ?_<;>intro hb) | refine sd ?_ | apply aE | (apply aO;(· decide +kernel)) | refine bd ?_ ?_ | fail
      refine fq hO 1 [0,3,4,5,6] rfl ss ss ss ?_
      simp only [ae,ao]
      refine HI2.out (k+1) _ _ (by have:=Hf.out.1;omega) ⟨Hf.out.1, ?_, ?_, ?_, ?_, ?_, ?_,rfl⟩
      ·(simp only [go_sem, *];try rfl)
      ·(simp only [go_sem, *];try rfl)
      ·(simp only [go_sem, *];try rfl)
      ·(simp only [go_sem, *];try rfl)
      ·rw [Hf.out.2];(simp only [go_sem, *];try rfl)
      ·(simp only [go_sem, *];try rfl)
     ·have hb:k9 t (6 * j+k)=0:=by
       unfold k9
       rw [← ht,aQ,cT (by omega)]
       rfl
      rw [hb] at hps
      have d2:decide ((((6 * j+k) / 8:Nat):Int)<(s.length:Int))=false:=by simp;omega
      have k4:ar.wrap (((2 * n:Nat):Int)+0)=((2 * n+0:Nat):Int):=by rw [ay _ (by omega)];omega
      have Hf:=au (cD hk6 hps)
      clear hk hk6 hp hp6 hps hm8 hin hb ht hel hs hlt hlt8 hj hjn
      repeat' first | refine st ?_ | (refine br ?_ ?_<;>intro hb) | refine sd ?_ | apply aE | (apply aO;(· decide +kernel)) | refine bd ?_ ?_ | fail
      refine fq hO 1 [0,3,4,5,6] rfl ss ss ss ?_
      simp only [ae,ao]
      refine HI2.out (k+1) _ _ (by have:=Hf.out.1;omega) ⟨Hf.out.1, ?_, ?_, ?_, ?_, ?_, ?_,rfl⟩
      ·(simp only [go_sem, *];try rfl)
      ·(simp only [go_sem, *];try rfl)
      ·(simp only [go_sem, *];try rfl)
      ·(simp only [go_sem, *];try rfl)
      ·rw [Hf.out.2];(simp only [go_sem, *];try rfl)
      ·(simp only [go_sem, *];try rfl)
    ·have hke:k=6:=by omega
     subst hke
     have d1:decide (((6 * j+6:Nat):Int)<((6 * (j+1):Nat):Int))=false:=by simp;omega
     obtain⟨hx1,rn⟩:=Hat.out j hlt8
     rw [FT] at h5
     generalize jC t (6 * j)=v at h5 hx1 rn
     have hsg:=E7 v hx1
     have htk:L.take (j+1)=L.take j++[bO v]:=by rw [pI,rn];rfl
     have hb1:(j+1) * 1≤140737488355328:=by omega
     have Hf:=au (cD hlt htk)
     clear hk hk6 hx1 rn htk ht hel hs hlt hlt8 hj hjn
     repeat' first | refine st ?_ | (refine br ?_ ?_<;>intro hb) | fail
     refine fq hO 1 [0,3,4] rfl ss ss ss ?_
     simp only [ae,ao]
     refine HI.out (j+1) _ _ (by have:=Hf.out.1;omega) ⟨Hf.out.1, ?_, ?_, ?_, ?_, ?_⟩
     ·(simp only [go_sem, *];try rfl)
     ·(simp only [go_sem, *];try rfl)
     ·(simp only [go_sem, *];try rfl)
     ·(simp only [go_sem, *];try rfl)
     ·rw [Hf.out.2,co];rfl
  ·have hje:j=L.length:=by omega
   subst hje
   rw [bQ]
   have d0:decide (((6 * L.length:Nat):Int)<((8 * s.length:Nat):Int))=false:=by simp;omega
   have hlen:(L.map iI).length=L.length:=by simp
   have hby:=qN L
   have hh:=H.out
   clear ht hel hs hlt hj HI H
   repeat' first | refine st ?_ | (refine br ?_ ?_<;>intro hb) | fail
   refine fR Tryz.results180 ?_
   exact hh
end Go.Proofs.YthdbijpefkapnaaGreatDoor
namespace Go.Proofs.YthdbijpefkapnaaGreatDoor
open Go Go.Fen
attribute [local irreducible] ba WP az dI ie cU aR cw
set_option maxRecDepth 8000
theorem F2 (l p:Nat) (h:p≤jf l):(((l+p) % 4:Nat)=0↔p=jf l):=by
 unfold jf at *
 omega
theorem FL (w0:World) (S:List aH) (s:List UInt8) (hs:s.length≤4096) (R:Rt) (h:R (.ret (.tup [.str (iW s),.int .i64 0])) S):az Tryz.prog w0 93 [.str s] S R:=by
 have d0:decide ((4096:Int)<(s.length:Int))=false:=by simp;omega
 have hb:=fun S'=>Lo w0 S' s (by omega)
 have hel:(gY s).length≤10000:=by unfold gY;simp [pq];omega
 unfold iW at h
 generalize gY s=B at hb h hel
 clear hs
 refine eN Tryz.func93 rfl Tryz.ntmps93 fun hO=>?_
 repeat' first | refine st ?_ | (refine ca ?_;apply hb) | (refine br ?_ ?_<;>intro hb) | fail
 refine dX (fun (p:Nat) env S'=>p≤jf B.length∧env 1000000=.dfr []∧env 4=.str (B++bL p 61)∧S'=S) (fun p=>jf B.length - p) 0 ?_ ?_
 ·exact⟨bI _,ss,by rw [List.replicate_zero,aP];(simp only [go_sem, *];try rfl),ss⟩
 ·rintro p env S' ⟨hp,e0,f4,rfl⟩ IH
  have HI:=au IH
  have H:=au h
  clear IH h
  have hl:(B++bL p (61:UInt8)).length=B.length+p:=by simp
  have hpl:=F2 B.length p hp
  have hp4:jf B.length≤3:=by unfold jf;omega
  have hsu:B++bL (p+1) (61:UInt8)=(B++bL p 61)++[61]:=by rw [List.replicate_succ',ai]
  have Hsu:=au hsu
  clear hsu
  by_cases hpe:p=jf B.length
  ·subst hpe
   generalize B++bL (jf B.length) (61:UInt8)=X at f4 hl H
   have hm:(X.length:Int).tmod 4=((X.length % 4:Nat):Int):=gm _ 4
   have hz:X.length % 4=0:=by rw [hl];exact hpl.2 rfl
   rw [hz] at hm
   have hm:(X.length:Int).tmod 4=0:=hm
   have hh:=H.out
   clear hp hl hpl hp4 hz HI H hel Hsu
   repeat' first | refine st ?_ | (refine br ?_ ?_<;>intro hb) | fail
   refine fR Tryz.results93 ?_
   exact hh
  ·generalize B++bL p (61:UInt8)=X at f4 hl Hsu
   have hm:(X.length:Int).tmod 4=((X.length % 4:Nat):Int):=gm _ 4
   have hz:X.length % 4≠0:=by rw [hl];exact fun e=>hpe (hpl.1 e)
   have d1:(((X.length % 4:Nat):Int) != 0)=true:=by rw [bne_iff_ne];omega
   have ha:X.length+1≤9223372036854775807:=by omega
   have Hf:=au (show p+1≤jf B.length by omega)
   clear hp hl hpl hp4 hz hpe hel
   repeat' first | refine st ?_ | (refine br ?_ ?_<;>intro hb) | fail
   refine HI.out (p+1) _ _ (by have:=Hf.out;omega) ⟨Hf.out, ?_, ?_,rfl⟩
   ·(simp only [go_sem, *];try rfl)
   ·rw [Hsu.out];(simp only [go_sem, *];try rfl)
end Go.Proofs.YthdbijpefkapnaaGreatDoor
namespace Go.Proofs.YthdbijpefkapnaaGreatDoor
open Go Go.Fen
attribute [local irreducible] ba WP az dI ie cU aR cw
set_option maxRecDepth 8000
def dst (V:List Nat) (i:Nat):nM:=(V.take i).foldl eC ⟨[],0,0⟩
def zz (q:nM):Prop:=(q.wait=0∧q.rest=0)∨(q.wait=6∧q.rest<64)∨(q.wait=4∧q.rest<16)∨(q.wait=2∧q.rest<4)
theorem DT {q:nM}{v:Nat} (h:zz q) (hv:v<64):zz (eC q v)∧(eC q v).out.length≤q.out.length+1:=by
 obtain⟨o,w,r⟩:=q
 unfold zz eC at *
 simp only at *
 rcases h with⟨rfl,rfl⟩ | ⟨rfl,h⟩ | ⟨rfl,h⟩ | ⟨rfl,h⟩<;>simp<;>omega
end Go.Proofs.YthdbijpefkapnaaGreatDoor
namespace Go.Proofs.YthdbijpefkapnaaGreatDoor
open Go Go.Fen
attribute [local irreducible] ba WP az dI ie cU aR cw
set_option maxRecDepth 8000
end Go.Proofs.YthdbijpefkapnaaGreatDoor
namespace Go.Proofs.YthdbijpefkapnaaGreatDoor
open Go Go.Fen
attribute [local irreducible] ba WP az dI ie cU aR cw
set_option maxRecDepth 8000
def Ac.av (a:Ac):AV:=.agg [.int .i64 a.kind,.int .i64 a.n,.int .i64 a.m,.int .i64 a.ck,.int .i64 a.cn,.str a.text]
def yM:Option Ac→AV
 | some a=>.tup [a.av,.bool true]
 | none=>.tup [zeroA.av,.bool false]
theorem vY {s w r:List UInt8} (h:kD s=some (w,r)):w.length≤s.length∧r.length≤s.length:=by
 unfold kD at h
 split at h
 ·cases h
 ·cases h
  have htd:=congrArg lz (List.takeWhile_append_dropWhile (p:=fun b=>b != 59) (l:=s))
  rw [ab] at htd
  rw [zE]
  omega
end Go.Proofs.YthdbijpefkapnaaGreatDoor
namespace Go.Proofs.YthdbijpefkapnaaGreatDoor
open Go Go.Fen
attribute [local irreducible] ba WP az dI ie cU aR cw
set_option maxRecDepth 8000
def L7 (n:Nat):List UInt8:=if n<10 then [aN (48+n)] else if n<100 then [aN (48+n / 10),aN (48+n % 10)] else [aN (48+n / 10 / 10),aN (48+n / 10 % 10),aN (48+n % 10)]
theorem DQ:∀ n:Nat,n<256→cO (n:Int)=L7 n:=by decide +kernel
theorem Aa (w0:World) (S:List aH) (n:Nat) (hn:n<10) (R:Rt) (h:R (.ret (.str [aN (48+n)])) S):az Tryz.prog w0 92 [.int .i64 n] S R:=by
 have d1:decide ((n:Int)<10)=true:=by simp;omega
 have k1:ar.wrap (48+(n:Int))=((48+n:Nat):Int):=by rw [ay _ (by omega)];omega
 have k2:bo.wrap ((48+n:Nat):Int)=((48+n:Nat):Int):=eo _ (by omega)
 clear hn
 refine eN Tryz.func92 rfl Tryz.ntmps92 fun hO=>?_
 repeat' first | refine st ?_ | (refine br ?_ ?_<;>intro hb) | fail
 refine fR Tryz.results92 ?_
 exact h
theorem Ie (w0:World) (S:List aH) (n:Nat) (h1:10≤n) (hn:n<100) (R:Rt) (h:R (.ret (.str [aN (48+n / 10),aN (48+n % 10)])) S):az Tryz.prog w0 92 [.int .i64 n] S R:=by
 have d1:decide ((n:Int)<10)=false:=by simp;omega
 have k1:ar.wrap ((n:Int).tdiv 10)=((n / 10:Nat):Int):=A0 n 10 (by omega)
 have k2:(n:Int).tmod 10=((n % 10:Nat):Int):=gm n 10
 have c1:=fun S'=>Aa w0 S' (n / 10) (by omega)
 have c2:=fun S'=>Aa w0 S' (n % 10) (by omega)
 clear h1 hn
 refine eN Tryz.func92 rfl Tryz.ntmps92 fun hO=>?_
 repeat' first | refine st ?_ | (refine ca ?_;first | apply c1 | apply c2) | (refine br ?_ ?_<;>intro hb) | fail
 refine fR Tryz.results92 ?_
 exact h
theorem MW (w0:World) (S:List aH) (n:Nat) (hn:n<256) (R:Rt) (h:R (.ret (.str (cO (n:Int)))) S):az Tryz.prog w0 92 [.int .i64 n] S R:=by
 rw [DQ n hn] at h
 unfold L7 at h
 by_cases h1:n<10
 ·rw [if_pos h1] at h;exact Aa w0 S n h1 R h
 rw [if_neg h1] at h
 by_cases h2:n<100
 ·rw [if_pos h2] at h;exact Ie w0 S n (by omega) h2 R h
 rw [if_neg h2] at h
 have d1:decide ((n:Int)<10)=false:=by simp;omega
 have k1:ar.wrap ((n:Int).tdiv 10)=((n / 10:Nat):Int):=A0 n 10 (by omega)
 have k2:(n:Int).tmod 10=((n % 10:Nat):Int):=gm n 10
 have c1:=fun S'=>Ie w0 S' (n / 10) (by omega) (by omega)
 have c2:=fun S'=>Aa w0 S' (n % 10) (by omega)
 clear h1 h2 hn
 refine eN Tryz.func92 rfl Tryz.ntmps92 fun hO=>?_
 repeat' first | refine st ?_ | (refine ca ?_;first | apply c1 | apply c2) | (refine br ?_ ?_<;>intro hb) | fail
 refine fR Tryz.results92 ?_
 exact h
def sa:Option (List UInt8)→AV
 | some s=>.tup [.str s,.int .i64 0]
 | none=>.tup [.str [],.int .i64 2]
theorem Jh (w0:World) (S:List aH) (a:Ac) (hs:a.text.length≤10000) (R:Rt) (h:R (.ret (sa (dc a))) S):az Tryz.prog w0 43 [a.av] S R:=by
 have bad:dc a=none→R (.ret (.tup [.str [],.int .i64 2])) S:=fun e=>by rw [e] at h;exact h
 have good:∀ s,dc a=some s→R (.ret (.tup [.str s,.int .i64 0])) S:=fun s e=>by rw [e] at h;exact h
 clear h
 obtain⟨k,n,m,ck,cn,t⟩:=a
 unfold Ac.av
 simp only at hs ⊢
 have hk:k=44∨k=45∨k=46∨(k≠44∧k≠45∧k≠46):=by omega
 rcases hk with rfl | rfl | rfl | ⟨k1,k2,k3⟩
 ·by_cases hz:n=0∧m=0∧ck=0∧cn=0
  ·obtain⟨rfl,rfl,rfl,rfl⟩:=hz
   have ht:=fun S'=>Jf w0 S' t (by omega)
   have hl:2+t.length≤9223372036854775807:=by omega
   cases htb:gZ t with
   | true =>
    rw [htb] at ht
    have hh:=good (50::59::t) (by unfold dc;rw [if_pos ⟨rfl,htb⟩])
    clear bad good htb hs
    refine eN Tryz.func43 rfl Tryz.ntmps43 fun hO=>?_
    repeat' first | refine st ?_ | (refine ca ?_;apply ht) | (refine br ?_ ?_<;>intro hb) | fail
    refine fR Tryz.results43 ?_
    exact hh
   | false =>
    rw [htb] at ht
    have hh:=bad (by unfold dc;rw [if_neg (by simp [htb]),if_neg (by simp),if_neg (by simp)])
    clear bad good htb hs
    refine eN Tryz.func43 rfl Tryz.ntmps43 fun hO=>?_
    repeat' first | refine st ?_ | (refine ca ?_;apply ht) | (refine br ?_ ?_<;>intro hb) | fail
    refine fR Tryz.results43 ?_
    exact hh
  ·have e1:(n==0&&(m==0&&(ck==0&&cn==0)))=false:=by
    rw [mr];intro e;simp at e;exact hz e
   have hh:=bad (by unfold dc;rw [if_neg (by simp;omega),if_neg (by simp),if_neg (by simp)])
   clear bad good hz hs
   refine eN Tryz.func43 rfl Tryz.ntmps43 fun hO=>?_
   repeat' first | refine st ?_ | (refine br ?_ ?_<;>intro hb) | fail
   refine fR Tryz.results43 ?_
   exact hh
 ·by_cases hz:m=0∧t=[]
  ·obtain⟨rfl,rfl⟩:=hz
   by_cases hn1:0≤n
   ·have d1:decide (0≤n)=true:=decide_eq_true hn1
    by_cases hn2:n≤255
    ·have d2:decide (n≤255)=true:=decide_eq_true hn2
     by_cases hck:ck=2
     ·subst hck
      by_cases hcn:0≤cn∧cn≤16777215
      ·obtain⟨nn,rfl⟩:∃ nn:Nat,n=nn:=⟨n.toNat,by omega⟩
       obtain⟨cc,rfl⟩:∃ cc:Nat,cn=cc:=⟨cn.toNat,by omega⟩
       have ht:=fun S'=>FJ w0 S' cc (by omega)
       have hd:=fun S'=>MW w0 S' nn (by omega)
       have hh:=good (52::59::(cO (nn:Int)++59::kJ cc)) (by unfold dc;rw [if_neg (by simp),if_pos ⟨rfl,⟨hn1,hn2⟩,hcn⟩];rfl)
       obtain⟨_,hil,_⟩:=sA nn (by omega)
       have hrl:(kJ cc).length=12:=rfl
       generalize cO (nn:Int)=x at hd hh hil
       generalize kJ cc=y at ht hh hrl
       have hadd:∀ q:Nat,q≤50→q+x.length≤9223372036854775807:=fun q hq=>by omega
       have ha2:([52,59]++x).length+1≤9223372036854775807:=by simp;omega
       have ha3:([52,59]++x++[59]).length+y.length≤9223372036854775807:=by simp;omega
       have hy:x.length+1+1+1≤9223372036854775807:=by omega
       have hy2:(x++[59]).length≤9223372036854775793:=by simp;omega
       have hya:x++[59]++y=x++59::y:=by simp
       clear bad good hs hn1 hn2 hcn
       refine eN Tryz.func43 rfl Tryz.ntmps43 fun hO=>?_
       repeat' first | refine st ?_ | (refine ca ?_;first | apply ht | apply hd) | (refine br ?_ ?_<;>intro hb) | fail
       refine fR Tryz.results43 ?_
       exact hh
      ·have ht:=fun S'=>Dh w0 S' cn hcn
       have hh:=bad (by unfold dc;rw [if_neg (by simp),if_neg (by simp;omega),if_neg (by simp)])
       clear bad good hs hn1 hn2 hcn
       refine eN Tryz.func43 rfl Tryz.ntmps43 fun hO=>?_
       repeat' first | refine st ?_ | (refine ca ?_;apply ht) | (refine br ?_ ?_<;>intro hb) | fail
       refine fR Tryz.results43 ?_
       exact hh
     ·have d3:(ck==2)=false:=by rw [beq_eq_false_iff_ne];exact hck
      have hh:=bad (by unfold dc;rw [if_neg (by simp),if_neg (by simp;omega),if_neg (by simp)])
      clear bad good hs hn1 hn2 hck
      refine eN Tryz.func43 rfl Tryz.ntmps43 fun hO=>?_
      repeat' first | refine st ?_ | (refine br ?_ ?_<;>intro hb) | fail
      refine fR Tryz.results43 ?_
      exact hh
    ·have d2:decide (n≤255)=false:=decide_eq_false hn2
     have hh:=bad (by unfold dc;rw [if_neg (by simp),if_neg (by simp;omega),if_neg (by simp)])
     clear bad good hs hn1 hn2
     refine eN Tryz.func43 rfl Tryz.ntmps43 fun hO=>?_
     repeat' first | refine st ?_ | (refine br ?_ ?_<;>intro hb) | fail
     refine fR Tryz.results43 ?_
     exact hh
   ·have d1:decide (0≤n)=false:=decide_eq_false hn1
    have hh:=bad (by unfold dc;rw [if_neg (by simp),if_neg (by simp;omega),if_neg (by simp)])
    clear bad good hs hn1
    refine eN Tryz.func43 rfl Tryz.ntmps43 fun hO=>?_
    repeat' first | refine st ?_ | (refine br ?_ ?_<;>intro hb) | fail
    refine fR Tryz.results43 ?_
    exact hh
  ·have e1:(m==0&&t==[])=false:=by
    rw [mr];intro e;simp at e;exact hz e
   have hh:=bad (by unfold dc;rw [if_neg (by simp),if_neg (by simp;intro q1 q2 q3;exact absurd ⟨q1,q3⟩ hz),if_neg (by simp)])
   clear bad good hz hs
   refine eN Tryz.func43 rfl Tryz.ntmps43 fun hO=>?_
   repeat' first | refine st ?_ | (refine br ?_ ?_<;>intro hb) | fail
   refine fR Tryz.results43 ?_
   exact hh
 ·by_cases hz:n=0∧m=0∧ck=0∧cn=0
  ·obtain⟨rfl,rfl,rfl,rfl⟩:=hz
   by_cases hl:t.length≤378
   ·have d1:decide ((t.length:Int)≤378)=true:=by simp;omega
    have ht:=fun S'=>FL w0 S' t (by omega)
    have hel:=xH t
    have hh:=good (53::50::59::99::59::iW t) (by unfold dc;rw [if_neg (by simp),if_neg (by simp),if_pos ⟨rfl,hl⟩])
    generalize iW t=x at ht hh hel
    have hadd:∀ q:Nat,q≤50→q+x.length≤9223372036854775807:=fun q hq=>by omega
    clear bad good hs hl hel
    refine eN Tryz.func43 rfl Tryz.ntmps43 fun hO=>?_
    repeat' first | refine st ?_ | (refine ca ?_;apply ht) | (refine br ?_ ?_<;>intro hb) | fail
    refine fR Tryz.results43 ?_
    exact hh
   ·have d1:decide ((t.length:Int)≤378)=false:=by simp;omega
    have hh:=bad (by unfold dc;rw [if_neg (by simp),if_neg (by simp),if_neg (by simp;omega)])
    clear bad good hs hl
    refine eN Tryz.func43 rfl Tryz.ntmps43 fun hO=>?_
    repeat' first | refine st ?_ | (refine br ?_ ?_<;>intro hb) | fail
    refine fR Tryz.results43 ?_
    exact hh
  ·have e1:(n==0&&(m==0&&(ck==0&&cn==0)))=false:=by
    rw [mr];intro e;simp at e;exact hz e
   have hh:=bad (by unfold dc;rw [if_neg (by simp),if_neg (by simp),if_neg (by simp;omega)])
   clear bad good hz hs
   refine eN Tryz.func43 rfl Tryz.ntmps43 fun hO=>?_
   repeat' first | refine st ?_ | (refine br ?_ ?_<;>intro hb) | fail
   refine fR Tryz.results43 ?_
   exact hh
 ·have d1:(k==44)=false:=by rw [beq_eq_false_iff_ne];exact k1
  have d2:(k==45)=false:=by rw [beq_eq_false_iff_ne];exact k2
  have d3:(k==46)=false:=by rw [beq_eq_false_iff_ne];exact k3
  have hh:=bad (by unfold dc;rw [if_neg (by simp [k1]),if_neg (by simp [k2]),if_neg (by simp [k3])])
  clear bad good k1 k2 k3 hs
  refine eN Tryz.func43 rfl Tryz.ntmps43 fun hO=>?_
  repeat' first | refine st ?_ | (refine br ?_ ?_<;>intro hb) | fail
  refine fR Tryz.results43 ?_
  exact hh
end Go.Proofs.YthdbijpefkapnaaGreatDoor
namespace Go.Proofs.YthdbijpefkapnaaGreatDoor
open Go Go.Fen
attribute [local irreducible] ba WP az dI ie cU aR cw
set_option maxRecDepth 8000
def cq:AV:=.ifc 170 (.agg [])
theorem lK (w0:World) (S:List aH) (R:Rt) (h:R (.ret (.tup [])) S):az Tryz.prog w0 52 [.bool true] S R:=by
 refine eN Tryz.func52 rfl Tryz.ntmps52 fun hO=>?_
 repeat' first | refine st ?_ | (refine br ?_ ?_<;>intro hb) | fail
 refine fE Tryz.results52 ?_
 exact h
theorem lL (w0:World) (S:List aH) (R:Rt) (h:R (.panic cq) S):az Tryz.prog w0 52 [.bool false] S R:=by
 refine eN Tryz.func52 rfl Tryz.ntmps52 fun hO=>?_
 repeat' first | refine st ?_ | (refine br ?_ ?_<;>intro hb) | fail
 refine fP ?_
 exact h
theorem sH (k n m ck cn:Int) (t:List UInt8) (k2 n2 m2 KJ cn2:Int) (t2:List UInt8):(k==k2&&(n==n2&&(m==m2&&((ck==KJ&&cn==cn2)&&t==t2))))=decide ((⟨k,n,m,ck,cn,t⟩:Ac)=⟨k2,n2,m2,KJ,cn2,t2⟩):=by
 rw [dT]
 simp [and_assoc]
theorem vv (w0:World) (S:List aH) (a b:Ac) (hab:a=b) (R:Rt) (h:R (.ret (.tup [])) S):az Tryz.prog w0 112 [a.av,b.av] S R:=by
 have hm:=lK w0
 obtain⟨k,n,m,ck,cn,t⟩:=a
 obtain⟨k2,n2,m2,KJ,cn2,t2⟩:=b
 have e:=sH k n m ck cn t k2 n2 m2 KJ cn2 t2
 rw [decide_eq_true hab] at e
 unfold Ac.av
 simp only
 clear hab
 refine eN Tryz.func112 rfl Tryz.ntmps112 fun hO=>?_
 repeat' first | refine st ?_ | (refine ca ?_;apply hm) | (refine br ?_ ?_<;>intro hb) | fail
 refine fE Tryz.results112 ?_
 exact h
theorem vw (w0:World) (S:List aH) (a b:Ac) (hab:a≠b) (R:Rt) (h:R (.panic cq) S):az Tryz.prog w0 112 [a.av,b.av] S R:=by
 have hm:=lL w0
 obtain⟨k,n,m,ck,cn,t⟩:=a
 obtain⟨k2,n2,m2,KJ,cn2,t2⟩:=b
 have e:=sH k n m ck cn t k2 n2 m2 KJ cn2 t2
 rw [decide_eq_false hab] at e
 unfold Ac.av
 simp only
 unfold cq at hm h
 clear hab
 refine eN Tryz.func112 rfl Tryz.ntmps112 fun hO=>?_
 repeat' first | refine st ?_ | (refine ca ?_;apply hm) | (refine br ?_ ?_<;>intro hb) | fail
 refine fP ?_
 exact h
end Go.Proofs.YthdbijpefkapnaaGreatDoor
namespace Go.Proofs.YthdbijpefkapnaaGreatDoor
open Go Go.Fen
attribute [local irreducible] ba WP az dI ie cU aR cw
set_option maxRecDepth 8000
theorem DA (w0:World) (S:List aH) (s:List UInt8) (hs:s.length≤10000000) (R:Rt) (h:R (if gZ s then .ret (.tup []) else .panic cq) S):az Tryz.prog w0 113 [.str s] S R:=by
 have hco:=fun S'=>IU w0 S' s (by omega)
 have hcl:=qk s
 have hte:=fun S'=>KY w0 S' (eb s) (fun c hc=>by have:=hcl.1 c hc;omega) (by omega)
 have hll:(eb s).length≤100000000:=by omega
 unfold gZ ue at h
 generalize eb s=l at h hco hte hll
 have hmT:=lK w0
 have hmF:=lL w0
 unfold cq at hmF h
 have bad:(decide (s.length≤510)&&(l.all n_&&decide (fW l=s)))=false→R (.panic (.ifc 170 (.agg []))) S:=fun e=>by rw [e] at h;exact h
 have good:(decide (s.length≤510)&&(l.all n_&&decide (fW l=s)))=true→R (.ret (.tup [])) S:=fun e=>by rw [e] at h;exact h
 clear h hcl
 by_cases h40:s.length≤510
 case neg =>
  have d0:decide ((s.length:Int)≤510)=false:=by simp;omega
  have hh:=bad (by rw [decide_eq_false h40,bX])
  clear h40 hs hte bad good hmT hll
  refine eN Tryz.func113 rfl Tryz.ntmps113 fun hO=>?_
  repeat' first | refine st ?_ | (refine ca ?_;first | apply hco | apply hmF) | (refine br ?_ ?_<;>intro hb) | fail
  refine fP ?_
  exact hh
 have d0:decide ((s.length:Int)≤510)=true:=by simp;omega
 rw [decide_eq_true h40,cA] at bad good
 by_cases htx:fW l=s
 case neg =>
  have d1:(fW l==s)=false:=by rw [beq_eq_false_iff_ne];exact htx
  have hh:=bad (by rw [decide_eq_false htx,cH])
  clear h40 hs bad good hmT hll htx
  refine eN Tryz.func113 rfl Tryz.ntmps113 fun hO=>?_
  repeat' first | refine st ?_ | (refine ca ?_;first | apply hco | apply hte | apply hmF) | (refine br ?_ ?_<;>intro hb) | fail
  refine fP ?_
  exact hh
 have d1:(fW l==s)=true:=by rw [beq_iff_eq];exact htx
 rw [decide_eq_true htx,dh] at bad good
 have Bad:=au bad
 have Good:=au good
 have HmF:=au hmF
 clear h40 hs htx bad good hmF
 refine eN Tryz.func113 rfl Tryz.ntmps113 fun hO=>?_
 repeat' first | refine st ?_ | (refine ca ?_;first | apply hco | apply hte | apply hmT) | (refine br ?_ ?_<;>intro hb) | fail
 refine dX (fun (k:Nat) env S'=>k≤l.length∧(∀ j c,j<k→l[j]? = some c→n_ c=true)∧env 1000000=.dfr []∧env 17=.sval false (l.map Co)∧env 18=.int .i64 l.length∧env 19=.int .i64 (k:Int)∧S'=S) (fun k=>l.length - k) 0 ?_ ?_
 ·exact⟨bI _,fun j c hj=>absurd hj (by omega),ss,ss,ss,ss,rfl⟩
 ·rintro k env S' ⟨hk,hall,e0,e17,e18,e19,rfl⟩ IH
  have HI:=au IH
  have Hall:=au hall
  clear IH hall hco hte
  by_cases hlt:k<l.length
  ·obtain⟨c,hx⟩:∃ c,l[k]? = some c:=⟨_,aC hlt⟩
   have h1:decide ((k:Int)<(l.length:Int))=true:=by simpa using hlt
   have hw:ar.wrap ((k:Int)+1)=(k:Int)+1:=ay _ (by omega)
   have bad:n_ c=false→R (.panic (.ifc 170 (.agg []))) S':=fun hc=>Bad.out (by
    rw [List.all_eq_false]
    exact⟨c,aI hx,by simp [hc]⟩)
   have good:n_ c=true→∀ j d,j<k+1→l[j]? = some d→n_ d=true:=fun hc j d hj hd=>by
    by_cases e:j=k
    ·rw [e,hx] at hd;cases hd;exact hc
    ·exact Hall.out j d (by omega) hd
   have Bad2:=au bad
   have Good2:=au good
   have Hlt:=au hlt
   clear bad good hlt hk hll
   by_cases q1:c<32
   ·have d2:decide ((32:Int)≤(c:Int))=false:=by simp;omega
    have hc:n_ c=false:=by unfold n_;rw [decide_eq_false (by omega)];rfl
    have hb:=Bad2.out hc
    have hmF:=HmF.out
    clear q1 hc hmT
    repeat' first | apply dM | apply cW | apply cj | apply cX | apply dN | apply bv | apply dQ | apply bx | apply bl | apply bF | apply bw | apply bj | apply aZ | apply dP | (apply a_;(· rfl)) | (apply bD;simp only [aU]) | (apply bZ;(· rfl);(· simp only [go_sem, *,Co];try rfl);(· rfl);simp only [putA]) | (apply cZ;simp only [putA]) | apply bG | (apply cI [];(· simp only [go_sem, *,Co];try rfl);(· rfl);(· simp only [go_sem, *,Co];try rfl);(· rfl);(iterate 2 (· simp only [go_sem, *,Co];try rfl));(first | apply hmF);simp only [aR,putA]) | (apply b_;(· simp only [go_sem, *,Co];try rfl);(· rfl);(· simp only [go_sem, *,Co];try rfl)) | (apply cF;(iterate 2 (· simp only [go_sem, *,Co];try rfl));(· rfl);simp only [putA]) | (apply bi;(· simp only [go_sem, *,Co];try rfl);(· rfl);simp only [putA]) | (apply ce;(· simp only [go_sem, *,Co];try rfl)) | (apply ci;(· simp only [go_sem, *,Co];try rfl)) | (apply bE;(· rfl);(fail_if_success (focus (show _=some true;(· simp only [go_sem, *,Co];try rfl))));(· simp only [go_sem, *,Co];try rfl);all_goals (intro hb;try simp only [ax,aA] at hb)) | (apply cg;(· simp only [go_sem, *,Co];try rfl);all_goals (intro hb;try simp only [ax,aA] at hb)) | fail
    refine fP ?_
    exact hb
   have d2:decide ((32:Int)≤(c:Int))=true:=by simp;omega
   by_cases q2:127≤c
   ·have d3:decide ((c:Int)<127)=false:=by simp;omega
    by_cases q3:c≤159
    ·have d4:decide ((159:Int)<(c:Int))=false:=by simp;omega
     have hc:n_ c=false:=by unfold n_;rw [decide_eq_true q2,decide_eq_true q3];simp
     have hb:=Bad2.out hc
     have hmF:=HmF.out
     clear q1 q2 q3 hc hmT
     repeat' first | apply dM | apply cW | apply cj | apply cX | apply dN | apply bv | apply dQ | apply bx | apply bl | apply bF | apply bw | apply bj | apply aZ | apply dP | (apply a_;(· rfl)) | (apply bD;simp only [aU]) | (apply bZ;(· rfl);(· simp only [go_sem, *,Co];try rfl);(· rfl);simp only [putA]) | (apply cZ;simp only [putA]) | apply bG | (apply cI [];(· simp only [go_sem, *,Co];try rfl);(· rfl);(· simp only [go_sem, *,Co];try rfl);(· rfl);(iterate 2 (· simp only [go_sem, *,Co];try rfl));(first | apply hmF);simp only [aR,putA]) | (apply b_;(· simp only [go_sem, *,Co];try rfl);(· rfl);(· simp only [go_sem, *,Co];try rfl)) | (apply cF;(iterate 2 (· simp only [go_sem, *,Co];try rfl));(· rfl);simp only [putA]) | (apply bi;(· simp only [go_sem, *,Co];try rfl);(· rfl);simp only [putA]) | (apply ce;(· simp only [go_sem, *,Co];try rfl)) | (apply ci;(· simp only [go_sem, *,Co];try rfl)) | (apply bE;(· rfl);(fail_if_success (focus (show _=some true;(· simp only [go_sem, *,Co];try rfl))));(· simp only [go_sem, *,Co];try rfl);all_goals (intro hb;try simp only [ax,aA] at hb)) | (apply cg;(· simp only [go_sem, *,Co];try rfl);all_goals (intro hb;try simp only [ax,aA] at hb)) | fail
     refine fP ?_
     exact hb
    ·have d4:decide ((159:Int)<(c:Int))=true:=by simp;omega
     have hc:n_ c=true:=by unfold n_;rw [decide_eq_false q3,decide_eq_true (by omega)];simp
     clear q1 q2 q3
     repeat' first | apply dM | apply cW | apply cj | apply cX | apply dN | apply bv | apply dQ | apply bx | apply bl | apply bF | apply bw | apply bj | apply aZ | apply dP | (apply a_;(· rfl)) | (apply bD;simp only [aU]) | (apply bZ;(· rfl);(· simp only [go_sem, *,Co];try rfl);(· rfl);simp only [putA]) | (apply cZ;simp only [putA]) | apply bG | (apply cI [];(· simp only [go_sem, *,Co];try rfl);(· rfl);(· simp only [go_sem, *,Co];try rfl);(· rfl);(iterate 2 (· simp only [go_sem, *,Co];try rfl));(first | apply hmT);simp only [aR,putA]) | (apply b_;(· simp only [go_sem, *,Co];try rfl);(· rfl);(· simp only [go_sem, *,Co];try rfl)) | (apply cF;(iterate 2 (· simp only [go_sem, *,Co];try rfl));(· rfl);simp only [putA]) | (apply bi;(· simp only [go_sem, *,Co];try rfl);(· rfl);simp only [putA]) | (apply ce;(· simp only [go_sem, *,Co];try rfl)) | (apply ci;(· simp only [go_sem, *,Co];try rfl)) | (apply bE;(· rfl);(fail_if_success (focus (show _=some true;(· simp only [go_sem, *,Co];try rfl))));(· simp only [go_sem, *,Co];try rfl);all_goals (intro hb;try simp only [ax,aA] at hb)) | (apply cg;(· simp only [go_sem, *,Co];try rfl);all_goals (intro hb;try simp only [ax,aA] at hb)) | fail
     refine HI.out (k+1) _ _ (by have:=Hlt.out;omega) ⟨Hlt.out,Good2.out hc, ?_, ?_, ?_, ?_,rfl⟩
     all_goals (simp only [go_sem, *];try rfl)
   ·have d3:decide ((c:Int)<127)=true:=by simp;omega
    have hc:n_ c=true:=by unfold n_;rw [decide_eq_false q2,decide_eq_true (by omega)];rfl
    clear q1 q2
    repeat' first | apply dM | apply cW | apply cj | apply cX | apply dN | apply bv | apply dQ | apply bx | apply bl | apply bF | apply bw | apply bj | apply aZ | apply dP | (apply a_;(· rfl)) | (apply bD;simp only [aU]) | (apply bZ;(· rfl);(· simp only [go_sem, *,Co];try rfl);(· rfl);simp only [putA]) | (apply cZ;simp only [putA]) | apply bG | (apply cI [];(· simp only [go_sem, *,Co];try rfl);(· rfl);(· simp only [go_sem, *,Co];try rfl);(· rfl);(iterate 2 (· simp only [go_sem, *,Co];try rfl));(first | apply hmT);simp only [aR,putA]) | (apply b_;(· simp only [go_sem, *,Co];try rfl);(· rfl);(· simp only [go_sem, *,Co];try rfl)) | (apply cF;(iterate 2 (· simp only [go_sem, *,Co];try rfl));(· rfl);simp only [putA]) | (apply bi;(· simp only [go_sem, *,Co];try rfl);(· rfl);simp only [putA]) | (apply ce;(· simp only [go_sem, *,Co];try rfl)) | (apply ci;(· simp only [go_sem, *,Co];try rfl)) | (apply bE;(· rfl);(fail_if_success (focus (show _=some true;(· simp only [go_sem, *,Co];try rfl))));(· simp only [go_sem, *,Co];try rfl);all_goals (intro hb;try simp only [ax,aA] at hb)) | (apply cg;(· simp only [go_sem, *,Co];try rfl);all_goals (intro hb;try simp only [ax,aA] at hb)) | fail
    refine HI.out (k+1) _ _ (by have:=Hlt.out;omega) ⟨Hlt.out,Good2.out hc, ?_, ?_, ?_, ?_,rfl⟩
    all_goals (simp only [go_sem, *];try rfl)
  ·have h1:decide ((k:Int)<(l.length:Int))=false:=by simpa using hlt
   have hh:=Good.out (by
    rw [aF]
    intro c hc
    obtain⟨j,hj⟩:=bh hc
    exact Hall.out j c (by have:=(aw.1 hj).1;omega) hj)
   clear hlt hk Hall HI hll
   repeat' first | refine st ?_ | (refine br ?_ ?_<;>intro hb) | fail
   refine fE Tryz.results113 ?_
   exact hh
end Go.Proofs.YthdbijpefkapnaaGreatDoor
namespace Go.Proofs.YthdbijpefkapnaaGreatDoor
open Go Go.Fen
attribute [local irreducible] ba WP az dI ie cU aR cw
set_option maxRecDepth 8000
theorem FM (w0:World) (S:List aH) (c:Int) (R:Rt) (h:R (.ret (.bool (decide (0≤c)&&tt c.toNat))) S):az Tryz.prog w0 181 [.int .i64 c] S R:=by
 by_cases c0:0≤c
 ·obtain⟨n,rfl⟩:∃ n:Nat,c=n:=⟨c.toNat,by omega⟩
  rw [decide_eq_true c0,cA,Int.toNat_natCast] at h
  exact Dn w0 S n R h
 ·have d0:decide (0≤c)=false:=decide_eq_false c0
  rw [d0,bX] at h
  clear c0
  refine eN Tryz.func181 rfl Tryz.ntmps181 fun hO=>?_
  repeat' first | refine st ?_ | (refine br ?_ ?_<;>intro hb) | fail
  refine fR Tryz.results181 ?_
  exact h
end Go.Proofs.YthdbijpefkapnaaGreatDoor
namespace Go.Proofs.YthdbijpefkapnaaGreatDoor
open Go Go.Fen
attribute [local irreducible] ba WP az dI ie cU aR cw
set_option maxRecDepth 8000
def rm (T:List (Int × Int)) (c:Int):Bool:=T.any fun p=>decide (p.1≤c)&&decide (c≤p.2)
def ti (p:Int × Int):AV:=.agg [.int .i64 p.1,.int .i64 p.2]
attribute [go_sem] ti
@[go_sem] theorem ti.plainL (l:List (Int × Int)):plainL (l.map ti)=true:=gk (fun _=>rfl) l
@[go_sem] theorem ti.ltL (l:List (Int × Int)) (n:Nat):ltL n (l.map ti)=true:=dC.2 fun x hx=>by obtain⟨y,_,rfl⟩:=aX.1 hx;rfl
theorem pi {T:List (Int × Int)}{k:Nat}{x:Int × Int}{c:Int} (hx:T[k]? = some x) (h:rm (T.take k) c=false) (hp:(decide (x.1≤c)&&decide (c≤x.2))=false):rm (T.take (k+1)) c=false:=rP hx h hp
theorem MH (w0:World) (S:List aH) (f:Bool) (c:Int) (T:List (Int × Int)) (hT:T.length≤1000000) (R:Rt) (h:R (.ret (.bool (rm T c))) S):az Tryz.prog w0 46 [.int .i64 c,.sval f (T.map ti)] S R:=by
 refine eN Tryz.func46 rfl Tryz.ntmps46 fun hO=>?_
 repeat' first | refine st ?_ | (refine br ?_ ?_<;>intro hb) | fail
 refine dX (fun (k:Nat) env S'=>k≤T.length∧rm (T.take k) c=false∧env 1000000=.dfr []∧env 0=.int .i64 c∧env 7=.sval f (T.map ti)∧env 8=.int .i64 T.length∧env 9=.int .i64 (k:Int)∧S'=S) (fun k=>T.length - k) 0 ?_ ?_
 ·exact⟨bI _,by simp [rm],ss,ss,ss,ss,ss,rfl⟩
 ·rintro k env S' ⟨hk,hp,e0,f0,f7,f8,f9,rfl⟩ IH
  have HI:=au IH
  have H:=au h
  clear IH h
  by_cases hlt:k<T.length
  ·obtain⟨⟨a,b⟩,hx⟩:∃ x,T[k]? = some x:=⟨_,aC hlt⟩
   have h1:decide ((k:Int)<(T.length:Int))=true:=by simpa using hlt
   have hw:ar.wrap ((k:Int)+1)=((k+1:Nat):Int):=by rw [ay _ (by omega)];omega
   have Hlt:=au (cD hlt hp)
   clear hk hp hlt
   cases d1:decide (a≤c)<;>cases d2:decide (c≤b)
   ·have Hn:=au (pi hx Hlt.out.2 (by simp only;rw [d1,d2];rfl))
    repeat' first | refine st ?_ | (refine br ?_ ?_<;>intro hb) | fail
    refine fq hO 0 [0,7,8,9] rfl ss ss ss ?_
    simp only [ao,aP]
    refine HI.out (k+1) _ _ (by have:=Hlt.out.1;omega) ⟨Hlt.out.1,Hn.out, ?_, ?_, ?_, ?_, ?_,rfl⟩
    all_goals (simp only [go_sem, *];try rfl)
   ·have Hn:=au (pi hx Hlt.out.2 (by simp only;rw [d1,d2];rfl))
    repeat' first | refine st ?_ | (refine br ?_ ?_<;>intro hb) | fail
    refine fq hO 0 [0,7,8,9] rfl ss ss ss ?_
    simp only [ao,aP]
    refine HI.out (k+1) _ _ (by have:=Hlt.out.1;omega) ⟨Hlt.out.1,Hn.out, ?_, ?_, ?_, ?_, ?_,rfl⟩
    all_goals (simp only [go_sem, *];try rfl)
   ·have Hn:=au (pi hx Hlt.out.2 (by simp only;rw [d1,d2];rfl))
    repeat' first | refine st ?_ | (refine br ?_ ?_<;>intro hb) | fail
    refine fq hO 0 [0,7,8,9] rfl ss ss ss ?_
    simp only [ao,aP]
    refine HI.out (k+1) _ _ (by have:=Hlt.out.1;omega) ⟨Hlt.out.1,Hn.out, ?_, ?_, ?_, ?_, ?_,rfl⟩
    all_goals (simp only [go_sem, *];try rfl)
   ·have hh:=H.out
    rw [show rm T c=true from we hx (by simp only;rw [d1,d2];rfl)] at hh
    repeat' first | refine st ?_ | (refine br ?_ ?_<;>intro hb) | fail
    refine fR Tryz.results46 ?_
    exact hh
  ·have h1:decide ((k:Int)<(T.length:Int))=false:=by simpa using hlt
   have hk':k=T.length:=by omega
   rw [hk',bQ] at hp
   have hh:=H.out
   rw [hp] at hh
   clear hlt hk hk' HI hp
   repeat' first | refine st ?_ | (refine br ?_ ?_<;>intro hb) | fail
   refine fR Tryz.results46 ?_
   exact hh
end Go.Proofs.YthdbijpefkapnaaGreatDoor
namespace Go.Proofs.YthdbijpefkapnaaGreatDoor
open Go Go.Fen
attribute [local irreducible] ba WP az dI ie cU aR cw
set_option maxRecDepth 8000
def iU:List (Int × Int):=[(768,879),(1155,1161),(1425,1469),(1552,1562),(1611,1631),(6832,6911),(7616,7679),(8203,8207),(8400,8447),(65024,65039),(65056,65071)]
def kl:List (Int × Int):=[(4352,4447),(11904,12350),(12353,19903),(19968,42191),(44032,55203),(63744,64255),(65072,65135),(65280,65376),(65504,65510),(127744,128591),(128640,128767),(129280,129535),(131072,262141)]
def CF:List (Int × Int):=[(4352,4447),(11904,12350),(12353,13311),(13312,19903),(19968,40959),(40960,42191),(44032,55203),(63744,64255),(65072,65135),(65280,65376),(65504,65510),(127744,128591),(128640,128767),(129280,129535),(131072,262141)]
def jq (c:Int):Int:=if !(decide (0≤c)&&tt c.toNat)||(decide (c<32)||(decide (127≤c)&&decide (c<160))) then -1 else if rm iU c then 0 else if rm kl c then 2 else 1
theorem AR (c:Int):rm CF c=rm kl c:=by
 rw [dT]
 simp only [rm,CF,kl,fo,gG,fc,aB,decide_eq_true_eq,gh,du,or_false]
 omega
theorem G1 (c:Int) (h:0≤c):rm [(0,31),(127,159)] c=(decide (c<32)||(decide (127≤c)&&decide (c<160))):=by
 rw [dT]
 simp only [rm,fo,gG,fc,aB,decide_eq_true_eq,gh,du,or_false]
 omega
theorem xY (c:Int) (h:c<768):rm iU c=false∧rm kl c=false:=by
 constructor<;>rw [mr] <;>
 ·simp only [rm,iU,kl,fo,gG,ne_eq,fc,aB,decide_eq_true_eq,gh,du,or_false]
  omega
theorem E4 (w0:World) (S:List aH) (c:Int) (R:Rt) (h:R (.ret (.bool (decide (0≤c)&&tt c.toNat))) S):az Tryz.prog w0 45 [.int .i64 c] S R:=by
 by_cases c0:0≤c
 ·obtain⟨n,rfl⟩:∃ n:Nat,c=n:=⟨c.toNat,by omega⟩
  rw [decide_eq_true c0,cA,Int.toNat_natCast] at h
  exact CE w0 S n R h
 ·have d0:decide (0≤c)=false:=decide_eq_false c0
  rw [d0,bX] at h
  clear c0
  refine eN Tryz.func45 rfl Tryz.ntmps45 fun hO=>?_
  repeat' first | refine st ?_ | (refine br ?_ ?_<;>intro hb) | fail
  refine fR Tryz.results45 ?_
  exact h
def lY (w0:World):Prop:=gl w0 0=.pro (eH (iU.map ti))
def lW (w0:World):Prop:=gl w0 1=.pro (eH (kl.map ti))
theorem wh {T:List (Int × Int)}:∀ y∈T.map ti,y.cells.length=2:=by
 intro y hy
 obtain⟨p,_,rfl⟩:=aX.1 hy
 rfl
theorem QF (w0:World) (hM:lY w0) (hW:lW w0) (S:List aH) (c:Int) (R:Rt) (h:R (.ret (.int .i64 (jq c))) S):az Tryz.prog w0 25 [.int .i64 c] S R:=by
 have hu:=fun S'=>E4 w0 S' c
 have hc:=fun S'=>MH w0 S' false c [(0,31),(127,159)] (by decide)
 have hm:=fun S'=>MH w0 S' false c iU (by decide)
 have hw:=fun S'=>MH w0 S' false c kl (by decide)
 unfold lY at hM
 unfold lW at hW
 unfold jq at h
 simp only [aG,aL,ti] at hc
 have hM1:gl w0 0=.pro (.int .i64 768::(eH (iU.map ti)).drop 1):=by rw [hM];rfl
 cases hk:decide (0≤c)&&tt c.toNat with
 | false =>
  rw [hk] at h hu
  clear hm hw hc hM hW hM1 hk
  refine eN Tryz.func25 rfl Tryz.ntmps25 fun hO=>?_
  repeat' first | refine st ?_ | (refine ca ?_;apply hu) | (refine br ?_ ?_<;>intro hb) | fail
  refine fR Tryz.results25 ?_
  exact h
 | true =>
  have h0:0≤c:=by
   have:=(aB _ _▸hk).1
   simpa using this
  rw [G1 c h0] at hc
  rw [hk] at h hu
  simp only [cC,kZ] at h
  cases hi:decide (c<32)||(decide (127≤c)&&decide (c<160)) with
  | true =>
   rw [hi] at h hc
   clear hm hw hM hW hM1 hk hi h0
   refine eN Tryz.func25 rfl Tryz.ntmps25 fun hO=>?_
   repeat' first | refine st ?_ | (refine ca ?_;first | apply hu | apply hc) | (apply cI [S.length];(· simp only [go_sem, *];try rfl);(· rfl);(· simp only [go_sem, *];try rfl);(· rfl);(iterate 2 (· simp only [go_sem, *];try rfl));first | apply hu | apply hc) | (refine br ?_ ?_<;>intro hb) | fail
   refine fR Tryz.results25 ?_
   exact h
  | false =>
   rw [hi] at h hc
   simp only [du,if_false] at h
   by_cases h7:c<768
   ·obtain⟨b1,b2⟩:=xY c h7
    rw [b1,b2] at h
    have d7:decide (c<768)=true:=decide_eq_true h7
    clear hm hw hM hW hk hi h0 h7 b1 b2
    refine eN Tryz.func25 rfl Tryz.ntmps25 fun hO=>?_
    repeat' first | refine st ?_ | (refine ca ?_;first | apply hu | apply hc) | (apply cI [S.length];(· simp only [go_sem, *];try rfl);(· rfl);(· simp only [go_sem, *];try rfl);(· rfl);(iterate 2 (· simp only [go_sem, *];try rfl));first | apply hu | apply hc) | (refine br ?_ ?_<;>intro hb) | fail
    refine fR Tryz.results25 ?_
    exact h
   ·have d7:decide (c<768)=false:=decide_eq_false h7
    clear hk hi h0 h7
    cases hi1:rm iU c with
    | true =>
     rw [hi1] at h hm
     have HM:=au hM
     clear hw hM hW hi1
     refine eN Tryz.func25 rfl Tryz.ntmps25 fun hO=>?_
     repeat' first | refine st ?_ | (refine ca ?_;first | apply hu | apply hc) | (apply cI [S.length];(· simp only [go_sem, *];try rfl);(· rfl);(· simp only [go_sem, *];try rfl);(· rfl);(iterate 2 (· simp only [go_sem, *];try rfl));first | apply hu | apply hc) | (refine br ?_ ?_<;>intro hb) | fail
     have hM:=HM.out
     clear hM1
     refine rE (els:=iU.map ti) ss rfl yu yx hM (by decide) wh ss ?_
     clear hM
     repeat' first | refine st ?_ | (refine ca ?_;apply hm) | (refine br ?_ ?_<;>intro hb) | fail
     refine fR Tryz.results25 ?_
     exact h
    | false =>
     rw [hi1] at h hm
     have HM:=au hM
     have HW:=au hW
     clear hM hW hi1
     refine eN Tryz.func25 rfl Tryz.ntmps25 fun hO=>?_
     repeat' first | refine st ?_ | (refine ca ?_;first | apply hu | apply hc) | (apply cI [S.length];(· simp only [go_sem, *];try rfl);(· rfl);(· simp only [go_sem, *];try rfl);(· rfl);(iterate 2 (· simp only [go_sem, *];try rfl));first | apply hu | apply hc) | (refine br ?_ ?_<;>intro hb) | fail
     have hM:=HM.out
     clear hM1
     refine rE (els:=iU.map ti) ss rfl yu yx hM (by decide) wh ss ?_
     clear hM
     repeat' first | refine st ?_ | (refine ca ?_;apply hm) | (refine br ?_ ?_<;>intro hb) | fail
     have hW:=HW.out
     refine rE (els:=kl.map ti) ss rfl CB yx hW (by decide) wh ss ?_
     clear hW
     cases hi2:rm kl c<;>rw [hi2] at h hw<;>clear hi2
     all_goals
      repeat' first | refine st ?_ | (refine ca ?_;apply hw) | (refine br ?_ ?_<;>intro hb) | fail
      refine fR Tryz.results25 ?_
      exact h
end Go.Proofs.YthdbijpefkapnaaGreatDoor
namespace Go.Proofs.YthdbijpefkapnaaGreatDoor
open Go Go.Fen
attribute [local irreducible] ba WP az dI ie cU aR cw
set_option maxRecDepth 8000
theorem Pq (w0:World) (S:List aH) (c:Int) (T:List (Int × Int)) (hT:T.length≤1000000) (R:Rt) (h:R (.ret (.bool (rm T c))) S):az Tryz.prog w0 182 [.sval false (T.map ti),.int .i64 c] S R:=by
 refine eN Tryz.func182 rfl Tryz.ntmps182 fun hO=>?_
 repeat' first | refine st ?_ | (refine br ?_ ?_<;>intro hb) | fail
 refine dX (fun (k:Nat) env S'=>k≤T.length∧rm (T.take k) c=false∧env 1000000=.dfr []∧env 0=.sval false (T.map ti)∧env 1=.int .i64 c∧env 5=.int .i64 (k:Int)∧S'=S) (fun k=>T.length - k) 0 ?_ ?_
 ·exact⟨bI _,by simp [rm],ss,ss,ss,ss,rfl⟩
 ·rintro k env S' ⟨hk,hp,e0,f0,f1,f5,rfl⟩ IH
  have HI:=au IH
  have H:=au h
  clear IH h
  by_cases hlt:k<T.length
  ·obtain⟨⟨a,b⟩,hx⟩:∃ x,T[k]? = some x:=⟨_,aC hlt⟩
   have h1:decide ((k:Int)<(T.length:Int))=true:=by simpa using hlt
   have hw:ar.wrap ((k:Int)+1)=((k+1:Nat):Int):=by rw [ay _ (by omega)];omega
   have Hlt:=au (cD hlt hp)
   clear hk hp hlt
   by_cases hab:(decide (a≤c)&&decide (c≤b))=true
   ·have hh:=H.out
    rw [show rm T c=true from we hx hab] at hh
    rw [aB] at hab
    obtain⟨d1,d2⟩:=hab
    repeat' first | refine st ?_ | (refine br ?_ ?_<;>intro hb) | fail
    refine fR Tryz.results182 ?_
    exact hh
   ·have Hn:=au (pi hx Hlt.out.2 (by simpa using hab))
    cases d1:decide (a≤c)<;>cases d2:decide (c≤b)
    case neg.true.true=>rw [d1,d2] at hab;exact absurd rfl hab
    all_goals
     clear hab
     repeat' first | refine st ?_ | (refine br ?_ ?_<;>intro hb) | fail
     refine HI.out (k+1) _ _ (by have:=Hlt.out.1;omega) ⟨Hlt.out.1,Hn.out, ?_, ?_, ?_, ?_,rfl⟩
     all_goals (simp only [go_sem, *];try rfl)
  ·have h1:decide ((k:Int)<(T.length:Int))=false:=by simpa using hlt
   have hk':k=T.length:=by omega
   rw [hk',bQ] at hp
   have hh:=H.out
   rw [hp] at hh
   clear hlt hk hk' HI hp
   repeat' first | refine st ?_ | (refine br ?_ ?_<;>intro hb) | fail
   refine fR Tryz.results182 ?_
   exact hh
theorem Lj (w0:World) (S:List aH) (R:Rt) (h:R (.ret (.sval false (iU.map ti))) S):az Tryz.prog w0 183 [] S R:=by
 simp only [iU,aG,aL,ti] at h
 refine eN Tryz.func183 rfl Tryz.ntmps183 fun hO=>?_
 repeat' first | refine st ?_ | (refine br ?_ ?_<;>intro hb) | fail
 refine fR Tryz.results183 ?_
 exact h
theorem MU (w0:World) (S:List aH) (R:Rt) (h:R (.ret (.sval false (CF.map ti))) S):az Tryz.prog w0 184 [] S R:=by
 simp only [CF,aG,aL,ti] at h
 refine eN Tryz.func184 rfl Tryz.ntmps184 fun hO=>?_
 repeat' first | refine st ?_ | (refine br ?_ ?_<;>intro hb) | fail
 refine fR Tryz.results184 ?_
 exact h
theorem QG (w0:World) (S:List aH) (c:Int) (R:Rt) (h:R (.ret (.int .i64 (jq c))) S):az Tryz.prog w0 94 [.int .i64 c] S R:=by
 have hu:=fun S'=>FM w0 S' c
 have hm:=fun S'=>Pq w0 S' c iU (by decide)
 have hw:=fun S'=>Pq w0 S' c CF (by decide)
 have hz:=Lj w0
 have ht:=MU w0
 rw [AR] at hw
 unfold jq at h
 generalize (decide (0≤c)&&tt c.toNat)=b at h hu
 cases b
 ·clear hm hw hz ht
  refine eN Tryz.func94 rfl Tryz.ntmps94 fun hO=>?_
  repeat' first | refine st ?_ | (refine ca ?_;apply hu) | (refine br ?_ ?_<;>intro hb) | fail
  refine fR Tryz.results94 ?_
  exact h
 simp only [cC,kZ] at h
 cases d1:decide (c<32)<;>rw [d1] at h
 case true =>
  clear hm hw hz ht
  refine eN Tryz.func94 rfl Tryz.ntmps94 fun hO=>?_
  repeat' first | refine st ?_ | (refine ca ?_;apply hu) | (refine br ?_ ?_<;>intro hb) | fail
  refine fR Tryz.results94 ?_
  exact h
 simp only [kZ] at h
 cases d2:decide (127≤c)<;>cases d3:decide (c<160)<;>rw [d2,d3] at h
 case true.true =>
  clear hm hw hz ht
  refine eN Tryz.func94 rfl Tryz.ntmps94 fun hO=>?_
  repeat' first | refine st ?_ | (refine ca ?_;apply hu) | (refine br ?_ ?_<;>intro hb) | fail
  refine fR Tryz.results94 ?_
  exact h
 all_goals
  simp only [dh,cH,cA,bX,du,if_false] at h
  generalize rm iU c=z1 at h hm
  generalize rm kl c=z2 at h hw
  cases z1<;>cases z2
  all_goals
   refine eN Tryz.func94 rfl Tryz.ntmps94 fun hO=>?_
   repeat' first | refine st ?_ | (refine ca ?_;first | apply hu | apply hm | apply hw | apply hz | apply ht) | (refine br ?_ ?_<;>intro hb) | fail
   refine fR Tryz.results94 ?_
   exact h
end Go.Proofs.YthdbijpefkapnaaGreatDoor
