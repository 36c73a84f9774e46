/- YthdbijpefkapnaaGreatDoorWalk6. Texts of the proof of a law about texts: a layer of abstract values above the worlds, the types, the walks of the functions that the law reaches, the law and its card. Own work of an AI agent. -/
import Derived.Test.YthdbijpefkapnaaGreatDoorWalk0
import Derived.Test.YthdbijpefkapnaaGreatDoorCore3
import Derived.Shelf.Strconv.ToError
import Derived.Test.YthdbijpefkapnaaGreatDoorShelf
import Derived.Test.YthdbijpefkapnaaGreatDoorWalk5
import Derived.Shelf.Strconv.ToErrorRange
import Derived.Shelf.Strconv.Atoi
import Derived.Lib.AtoiErrMem
set_option linter.all false
set_option maxHeartbeats 40000000
open And renaming intro → cD
open Array renaming ext_getElem? → ma, getElem?_eq_getElem → bN, getElem?_eq_none → dB
open BitVec renaming ofInt → aD
open Bool renaming and_eq_false_iff → fm, and_eq_true → aB, false_and → bX, false_eq_true → du, not_eq_false' → aA, not_eq_true' → ax, true_and → cA
open Go.IntKind renaming bits → bz, i64 → ar, u64 → bc, u8 → bo
open Go.IntWalk renaming i64_in → ay, u64_in → hJ, u8_in → eo
open Go.Lib renaming hid → au, itoa → cO, trimS → jV
open Go.RowKit renaming Below → mA
open Go.World renaming block_lt_of_cell? → gN
open List renaming all_cons → AG, all_reverse → rB, append_assoc → ai, cons_append → al, getElem?_eq_getElem → aC, getElem?_eq_none → cT, getElem?_map → aQ, getElem?_toArray → gJ, length → lz, length_append → ab, length_map → bB, length_replicate → Cp, map_cons → aG, map_nil → aL, mem_cons → dj, mem_map → aX, mem_of_getElem? → aI, take → qR, take_length → bQ, toList_toArray → aU
open Nat renaming pow_le_pow_right → gx, zero_le → bI
open Option renaming bind_some → Iu, map_some → dF
open Option.some renaming injEq → bM
open UInt8 renaming ofNat → aN, ofNat_toNat → cz
namespace Go.Proofs.YthdbijpefkapnaaGreatDoor
open Go Go.Fen
attribute [local irreducible] ba WP az dI ie cU aR cw
set_option maxRecDepth 8000
def Nt (w0:World):Prop:=∀ (S:List aH) (b1 b2:UInt8) (R:Rt),(∀ v,j9 b1 b2=some v→R (.ret (.tup [.int .u64 v,.inil])) S)→(j9 b1 b2=none→∀ t x,R (.ret (.tup [.int .u64 0,.ifc t x])) S) →
 az Tryz.prog w0 250 [.str [b1,b2],.int .i64 16,.int .i64 8] S R
theorem Na (c:UInt8):bo.wrap (↑(aD bo.bits (c.toNat:Int) ||| aD bo.bits 32).toNat)=(((c ||| 32).toNat:Nat):Int):=by
 have:∀ n:Nat,n<256→bo.wrap (↑(aD bo.bits (n:Int) ||| aD bo.bits 32).toNat)=(((aN n ||| 32).toNat:Nat):Int):=by decide +kernel
 have h:=this c.toNat c.toNat_lt
 rwa [cz] at h
theorem LO (w0:World) (S:List aH) (c:UInt8) (R:Rt) (h:R (.ret (.int .u8 ((c ||| 32).toNat:Nat))) S):az Tryz.prog w0 319 [.int .u8 c.toNat] S R:=by
 have g:=Na c
 simp only [bz] at g
 refine eN Tryz.func319 rfl Tryz.ntmps319 fun hO=>?_
 repeat' first | refine st ?_ | (refine br ?_ ?_<;>intro hb) | fail
 refine fR Tryz.results319 ?_
 exact h
def hU (b:UInt8):Nat:=(b ||| 32).toNat
def dv (b:UInt8):Option Nat:=if 48≤b.toNat∧b.toNat≤57 then some (b.toNat - 48) else if 97≤hU b∧hU b≤122 then some (hU b - 87) else none
theorem Kz (b:UInt8):jF b=(dv b).bind fun d=>if d<16 then some d else none:=by
 have:∀ n:Nat,n<256→jF (aN n)=(dv (aN n)).bind fun d=>if d<16 then some d else none:=by decide +kernel
 have h:=this b.toNat b.toNat_lt
 rwa [cz] at h
theorem DL (w0:World) (S:List aH) (c:UInt8) (R:Rt) (h:R (.ret (.int .u8 (hU c:Nat))) S):az Tryz.prog w0 319 [.int .u8 c.toNat] S R:=LO w0 S c R h
def qW:AV:=.ifc 299 (.int .i64 2)
def Pr (b1 b2:UInt8) (i acc:Nat):Prop:=(i=0∧acc=0)∨(i=1∧jF b1=some acc)∨(i=2∧j9 b1 b2=some acc)
theorem FS {b1 b2:UInt8}{i acc:Nat} (hp:(i=0∧acc=0)∨(i=1∧jF b1=some acc)):∃ b:UInt8,[AV.int .u8 b1.toNat,AV.int .u8 b2.toNat][i]? = some (.int .u8 b.toNat)∧i<2∧acc<16∧(jF b=none→j9 b1 b2=none)∧(∀ d,jF b=some d→Pr b1 b2 (i+1) (acc * 16+d)):=by
 rcases hp with⟨rfl,rfl⟩ | ⟨rfl,ha⟩
 ·exact⟨b1,rfl,by omega,by omega,fun h=>by simp [j9,h],fun d h=>.inr (.inl ⟨rfl,by simpa using h⟩)⟩
 ·refine⟨b2,rfl,by omega,sB ha,fun h=>by simp [j9,ha,h],fun d h=>.inr (.inr ⟨rfl, ?_⟩)⟩
  simp [j9,ha,h];try omega
theorem Lu (w0:World) (S:List aH) (b1 b2:UInt8) (R:Rt) (h:R (.ret (match j9 b1 b2 with | some v=>.tup [.int .u64 v,.inil] | none=>.tup [.int .u64 0,qW])) S) :
  az Tryz.prog w0 293 [.str [b1,b2],.int .i64 16,.int .i64 8] S R:=by
 refine eN Tryz.func293 rfl Tryz.ntmps293 fun hO=>?_
 repeat' first | refine st ?_ | (refine br ?_ ?_<;>intro hb) | fail
 apply oU
 ·(simp only [go_sem, *];try rfl)
 ·rfl
 ·(simp only [go_sem, *];try rfl)
 ·(simp only [go_sem, *];try rfl)
 ·(simp only [go_sem, *];try rfl)
 ·(simp only [go_sem, *];try rfl)
 ·rfl
 simp only [putA,aG,aL,jn]
 repeat' first | refine st ?_ | (refine br ?_ ?_<;>intro hb) | fail
 have hffw:bc.wrap (bc.wrap (1 * 2 ^ min (bc.wrap 8).toNat 64) - 1)=255:=by decide +kernel
 refine dX (fun (p:Nat × Nat) env S'=>Pr b1 b2 p.1 p.2∧env 1000000=.dfr []∧env 1=.int .i64 16∧env 8=.bool false∧env 9=.str [b1,b2]∧env 10=.int .u64 1152921504606846976∧env 11=.int .u64 255∧env 12=.bool false∧env 13=.int .u64 p.2 ∧
  env 99=.sval false [.int .u8 b1.toNat,.int .u8 b2.toNat]∧env 100=.int .i64 2∧env 101=.int .i64 p.1∧S'=S) (fun p=>2 - p.1) (0,0) ?_ ?_
 ·exact⟨.inl ⟨rfl,rfl⟩,ss,ss,ss,ss,ss,ss,ss,ss,ss,ss,ss,rfl⟩
 ·rintro⟨i,acc⟩ env S' ⟨hp,e0,f1,f8,f9,f10,f11,f12,f13,f99,f100,f101,rfl⟩ IH
  have HI:=au IH
  have hw16:bo.wrap 16=16:=by decide
  have hw16':bc.wrap 16=16:=by decide
  have hlw:=DL w0
  clear IH hffw
  simp only at f13 f101
  rcases or_assoc.2 hp with hp | ⟨rfl,ha⟩
  ·have hps:=FS (b2:=b2) hp
   clear hp
   obtain⟨b,hb,hlt,hacc,hnone,hsome⟩:=hps
   have h1:decide ((i:Int)<2)=true:=by simp;omega
   have hwi:ar.wrap ((i:Int)+1)=((i+1:Nat):Int):=by rw [ay _ (by omega)];rfl
   have Hlt:=au hlt
   have d5:decide ((1152921504606846976:Int)≤(acc:Int))=false:=by simp;omega
   have w5:bc.wrap ((acc:Int) * 16)=((acc * 16:Nat):Int):=by rw [hJ _ (by omega)];omega
   have key:∀ d:Nat,d<16→bc.wrap (d:Int)=(d:Int)∧bc.wrap (((acc * 16:Nat):Int)+(d:Int))=((acc * 16+d:Nat):Int)∧decide (((acc * 16+d:Nat):Int)<((acc * 16:Nat):Int))=false∧decide ((255:Int)<((acc * 16+d:Nat):Int))=false:=by
    intro d hd
    refine⟨hJ _ (by omega),by rw [hJ _ (by omega)];omega,by simp;omega,by simp;omega⟩
   clear hlt hacc
   have Hnone:=au hnone
   have Hsome:=au hsome
   clear hnone hsome
   have Key:=au key
   clear key
   have hdv:=Kz b
   by_cases c1:48≤b.toNat∧b.toNat≤57
   ·have d1:decide ((48:Int)≤(b.toNat:Int))=true:=by simp;omega
    have d2:decide ((b.toNat:Int)≤57)=true:=by simp;omega
    have d3:((b.toNat:Int)==95)=false:=by simp;omega
    have w1:bo.wrap ((b.toNat:Int) - 48)=((b.toNat - 48:Nat):Int):=by rw [eo _ (by omega)];omega
    have hd:jF b=some (b.toNat - 48):=by rw [hdv];simp [dv,c1];omega
    have hd16:b.toNat - 48<16:=by omega
    have d4:decide ((16:Int)≤((b.toNat - 48:Nat):Int))=false:=by simp;omega
    clear hdv c1
    generalize hdd:b.toNat - 48=d at *
    obtain⟨k1,k2,k3,k4⟩:=Key.out d hd16
    have Hd:=au hd
    clear hdd hd hd16
    repeat' first | refine st ?_ | (refine ca ?_;apply hlw) | (refine br ?_ ?_<;>intro hb) | fail
    refine HI.out (i+1,acc * 16+d) _ _ (by have:=Hlt.out;simp only;omega) ⟨Hsome.out d Hd.out, ?_, ?_, ?_, ?_, ?_, ?_, ?_, ?_, ?_, ?_, ?_,rfl⟩
    all_goals (simp only [go_sem, *];try rfl)
   ·have hnd:(decide ((48:Int)≤(b.toNat:Int))&&decide ((b.toNat:Int)≤57))=false:=by
     rw [fm];simp;omega
    by_cases c2:97≤hU b∧hU b≤122
    ·have e1:decide ((97:Int)≤(hU b:Int))=true:=by simp;omega
     have e2:decide ((hU b:Int)≤122)=true:=by simp;omega
     have w1:bo.wrap ((hU b:Int) - 97)=((hU b - 97:Nat):Int):=by rw [eo _ (by omega)];omega
     have w2:bo.wrap (((hU b - 97:Nat):Int)+10)=((hU b - 87:Nat):Int):=by rw [eo _ (by omega)];omega
     have hd:jF b=if hU b - 87<16 then some (hU b - 87) else none:=by rw [hdv];simp only [dv,c1,c2,and_self,if_false,if_true,Iu]
     clear hdv c1 c2
     generalize hU b - 87=d at *
     generalize hU b - 97=e at *
     by_cases hd16:d<16
     ·rw [if_pos hd16] at hd
      have d4:decide ((16:Int)≤(d:Int))=false:=by simp;omega
      obtain⟨k1,k2,k3,k4⟩:=Key.out d hd16
      have Hd:=au hd
      clear hd hd16
      cases q1:decide ((48:Int)≤(b.toNat:Int))<;>cases q2:decide ((b.toNat:Int)≤57)<;>cases q3:((b.toNat:Int)==95)<;>simp only [q1,q2] at hnd<;>try (exfalso;cases hnd;done)
      all_goals clear hnd
      all_goals
       repeat' first | refine st ?_ | (refine ca ?_;apply hlw) | (refine br ?_ ?_<;>intro hb) | fail
       refine HI.out (i+1,acc * 16+d) _ _ (by have:=Hlt.out;simp only;omega) ⟨Hsome.out d Hd.out, ?_, ?_, ?_, ?_, ?_, ?_, ?_, ?_, ?_, ?_, ?_,rfl⟩
       all_goals (simp only [go_sem, *];try rfl)
     ·rw [if_neg hd16] at hd
      have d4:decide ((16:Int)≤(d:Int))=true:=by simp;omega
      rw [Hnone.out hd] at h
      clear hd hd16
      cases q1:decide ((48:Int)≤(b.toNat:Int))<;>cases q2:decide ((b.toNat:Int)≤57)<;>cases q3:((b.toNat:Int)==95)<;>simp only [q1,q2] at hnd<;>try (exfalso;cases hnd;done)
      all_goals clear hnd
      all_goals
       repeat' first | refine st ?_ | (refine ca ?_;apply hlw) | (refine br ?_ ?_<;>intro hb) | fail
       refine fR Tryz.results293 ?_
       exact h
    ·have hd:jF b=none:=by
      rw [hdv];unfold dv;rw [if_neg c1,if_neg c2];rfl
     rw [Hnone.out hd] at h
     have hle:(decide ((97:Int)≤(hU b:Int))&&decide ((hU b:Int)≤122))=false:=by
      rw [fm];simp;omega
     clear hd hdv c1 c2
     cases q1:decide ((48:Int)≤(b.toNat:Int))<;>cases q2:decide ((b.toNat:Int)≤57)<;>cases q3:((b.toNat:Int)==95)<;>simp only [q1,q2] at hnd<;>try (exfalso;cases hnd;done)
     all_goals clear hnd
     all_goals
      cases q4:decide ((97:Int)≤(hU b:Int))<;>cases q5:decide ((hU b:Int)≤122)<;>simp only [q4,q5] at hle<;>try (exfalso;cases hle;done)
     all_goals clear hle
     all_goals
      repeat' first | refine st ?_ | (refine ca ?_;apply hlw) | (refine br ?_ ?_<;>intro hb) | fail
      refine fR Tryz.results293 ?_
      exact h
  ·simp only at ha
   rw [ha] at h
   clear ha
   repeat' first | refine st ?_ | (refine br ?_ ?_<;>intro hb) | fail
   refine fR Tryz.results293 ?_
   exact h
def EB (w0:World):Prop:=∃ ev,w0.cell? ⟨6,0,none⟩=some ev∧(ev=.nilIface∨∃ te pe,ev=.iface te pe)
theorem K8 (w0:World) (hS:EB w0) (S:List aH) (s:List UInt8) (hs:s.length≤1000) (R:Rt) (h:∀ v:Value,R (.ret (.ifc 302 (.val v))) S) :
  az Tryz.prog w0 247 [.str [80,97,114,115,101,85,105,110,116],.str s,.int .i64 16,.int .i64 8,qW] S R:=by
 refine az.libR (vs:=[.string ⟨#[80,97,114,115,101,85,105,110,116]⟩,.string ⟨s.toArray⟩,.int .i64 16,.int .i64 8,.iface 299 (.int .i64 2)]) (Go.Proofs.enters_of Tryz.func247 (by kernel_rfl) rfl) rfl ?_
 intro w hb
 obtain⟨ev,hv,hev⟩:=hS
 refine(Go.Proofs.Any.strconv_toError_syntax Go.Proofs.Tryz.laysC245 ⟨#[80,97,114,115,101,85,105,110,116]⟩ ⟨s.toArray⟩ 16 8 ev w ?_ ?_ hev).mono ?_
 ·show s.toArray.size≤_
  simp;omega
 ·exact(hb.cell (gN _ _ hv)).trans hv
 ·rintro e w' ⟨N,rfl,hN,hc,hbw⟩
  exact⟨_,rfl,hbw,.ifc 302 (.val (.pointer (some ⟨N,0,none⟩))),fun ι ψ=>.ifc _ _ _ (.val _ rfl),h _⟩
theorem ub (w0:World) (hS:EB w0):Nt w0:=by
 intro S b1 b2 R h1 h2
 have hte:=fun S'=>K8 w0 hS S' [b1,b2] (by simp)
 cases hh:j9 b1 b2 with
 | some v =>
  have hpu:=fun S' (R:Rt) (h:R (.ret (.tup [.int .u64 v,.inil])) S')=>Lu w0 S' b1 b2 R (by rw [hh];exact h)
  have h:=h1 v hh
  clear hte h1 h2 hh
  refine eN Tryz.func250 rfl Tryz.ntmps250 fun hO=>?_
  repeat' first | refine st ?_ | (refine ca ?_;apply hpu) | (refine br ?_ ?_<;>intro hb) | fail
  refine fR Tryz.results250 ?_
  exact h
 | none =>
  have hpu:=fun S' (R:Rt) (h:R (.ret (.tup [.int .u64 0,qW])) S')=>Lu w0 S' b1 b2 R (by rw [hh];exact h)
  have h:=h2 hh
  clear h1 h2 hh
  unfold qW at hpu hte
  refine eN Tryz.func250 rfl Tryz.ntmps250 fun hO=>?_
  repeat' first | refine st ?_ | (refine ca ?_;first | apply hpu | apply hte) | (refine br ?_ ?_<;>intro hb) | fail
  intro v
  repeat' first | refine st ?_ | (refine br ?_ ?_<;>intro hb) | fail
  refine fR Tryz.results250 ?_
  exact h _ _
def Df:AV:=.ifc 299 (.int .i64 1)
theorem G7 {s:List UInt8}{i:Nat}{b:UInt8} (h:s[i]? = some b):(s.map jn)[i]? = some (.int .u8 (b.toNat:Int)):=by rw [aQ,h];rfl
theorem MX (w0:World) (S:List aH) (R:Rt) (h2:R (.ret (.tup [.int .u64 0,qW])) S):az Tryz.prog w0 293 [.str [],.int .i64 16,.int .i64 8] S R:=by
 unfold qW at h2
 refine eN Tryz.func293 rfl Tryz.ntmps293 fun hO=>?_
 repeat' first | refine st ?_ | (refine br ?_ ?_<;>intro hb) | fail
 refine fR Tryz.results293 ?_
 exact h2
theorem QP (w0:World) (S:List aH) (s:List UInt8) (hne:s≠[]) (hs:s.length≤100000) (R:Rt) (h1:∀ v:Nat,R (.ret (.tup [.int .u64 v,.inil])) S) (h2:R (.ret (.tup [.int .u64 0,qW])) S) (h3:R (.ret (.tup [.int .u64 255,Df])) S) :
  az Tryz.prog w0 293 [.str s,.int .i64 16,.int .i64 8] S R:=by
 have hn0:(s==[])=false:=by simpa using hne
 have Hs:=au hs
 clear hne hs
 unfold qW at h2
 unfold Df at h3
 have H1:=au h1
 have H2:=au h2
 have H3:=au h3
 clear h1 h2 h3
 refine eN Tryz.func293 rfl Tryz.ntmps293 fun hO=>?_
 repeat' first | refine st ?_ | (refine br ?_ ?_<;>intro hb) | fail
 apply oU
 ·(simp only [go_sem, *];try rfl)
 ·rfl
 ·(simp only [go_sem, *];try rfl)
 ·(simp only [go_sem, *];try rfl)
 ·(simp only [go_sem, *];try rfl)
 ·(simp only [go_sem, *];try rfl)
 ·rfl
 simp only [putA]
 repeat' first | refine st ?_ | (refine br ?_ ?_<;>intro hb) | fail
 have hffw:bc.wrap (bc.wrap (1 * 2 ^ min (bc.wrap 8).toNat 64) - 1)=255:=by decide +kernel
 have hlm:(s.map jn).length=s.length:=bB _
 refine dX (fun (p:Nat × Nat) env S'=>p.1≤s.length∧p.2≤255∧env 1000000=.dfr []∧env 1=.int .i64 16∧env 8=.bool false∧env 9=.str s∧env 10=.int .u64 1152921504606846976∧env 11=.int .u64 255∧env 12=.bool false∧env 13=.int .u64 p.2 ∧
  env 99=.sval false (s.map jn)∧env 100=.int .i64 s.length∧env 101=.int .i64 p.1∧S'=S) (fun p=>s.length - p.1) (0,0) ?_ ?_
 ·exact⟨bI _,by omega,ss,ss,ss,ss,ss,ss,ss,ss,ss,ss,ss,rfl⟩
 ·rintro⟨i,acc⟩ env S' ⟨hi,hacc,e0,f1,f8,f9,f10,f11,f12,f13,f99,f100,f101,rfl⟩ IH
  have HI:=au IH
  have hw16:bo.wrap 16=16:=by decide
  have hw16':bc.wrap 16=16:=by decide
  have hlw:=DL w0
  clear IH hffw hlm
  simp only at f13 f101 hi hacc
  have hs:=Hs.out
  by_cases hlt:i<s.length
  ·obtain⟨b,hx⟩:∃ b,s[i]? = some b:=⟨_,aC hlt⟩
   have hb:=G7 hx
   clear hx
   have h1:decide ((i:Int)<(s.length:Int))=true:=by simpa using hlt
   have hwi:ar.wrap ((i:Int)+1)=((i+1:Nat):Int):=by rw [ay _ (by omega)];rfl
   have Hlt:=au hlt
   have d5:decide ((1152921504606846976:Int)≤(acc:Int))=false:=by simp;omega
   have w5:bc.wrap ((acc:Int) * 16)=((acc * 16:Nat):Int):=by rw [hJ _ (by omega)];omega
   have key:∀ d:Nat,d<16→bc.wrap (d:Int)=(d:Int)∧bc.wrap (((acc * 16:Nat):Int)+(d:Int))=((acc * 16+d:Nat):Int)∧decide (((acc * 16+d:Nat):Int)<((acc * 16:Nat):Int))=false:=by
    intro d hd
    refine⟨hJ _ (by omega),by rw [hJ _ (by omega)];omega,by simp;omega⟩
   clear hlt hacc hi hs
   have Key:=au key
   clear key
   generalize s.map jn=B at *
   by_cases c1:48≤b.toNat∧b.toNat≤57
   ·have d1:decide ((48:Int)≤(b.toNat:Int))=true:=by simp;omega
    have d2:decide ((b.toNat:Int)≤57)=true:=by simp;omega
    have d3:((b.toNat:Int)==95)=false:=by simp;omega
    have w1:bo.wrap ((b.toNat:Int) - 48)=((b.toNat - 48:Nat):Int):=by rw [eo _ (by omega)];omega
    have hd16:b.toNat - 48<16:=by omega
    have d4:decide ((16:Int)≤((b.toNat - 48:Nat):Int))=false:=by simp;omega
    clear c1
    generalize hdd:b.toNat - 48=d at *
    obtain⟨k1,k2,k3⟩:=Key.out d hd16
    clear hdd hd16
    by_cases hm:acc * 16+d≤255
    ·have k4:decide ((255:Int)<((acc * 16+d:Nat):Int))=false:=by simp;omega
     have Hm:=au hm
     clear hm
     repeat' first | refine st ?_ | (refine ca ?_;apply hlw) | (refine br ?_ ?_<;>intro hb) | fail
     refine HI.out (i+1,acc * 16+d) _ _ (by have:=Hlt.out;simp only;omega) ⟨Hlt.out,Hm.out, ?_, ?_, ?_, ?_, ?_, ?_, ?_, ?_, ?_, ?_, ?_,rfl⟩
     all_goals (simp only [go_sem, *];try rfl)
    ·have k4:decide ((255:Int)<((acc * 16+d:Nat):Int))=true:=by simp;omega
     have h3:=H3.out
     clear hm
     repeat' first | refine st ?_ | (refine ca ?_;apply hlw) | (refine br ?_ ?_<;>intro hb) | fail
     refine fR Tryz.results293 ?_
     exact h3
   ·have hnd:(decide ((48:Int)≤(b.toNat:Int))&&decide ((b.toNat:Int)≤57))=false:=by
     rw [fm];simp;omega
    by_cases c2:97≤hU b∧hU b≤122
    ·have e1:decide ((97:Int)≤(hU b:Int))=true:=by simp;omega
     have e2:decide ((hU b:Int)≤122)=true:=by simp;omega
     have w1:bo.wrap ((hU b:Int) - 97)=((hU b - 97:Nat):Int):=by rw [eo _ (by omega)];omega
     have w2:bo.wrap (((hU b - 97:Nat):Int)+10)=((hU b - 87:Nat):Int):=by rw [eo _ (by omega)];omega
     clear c1 c2
     generalize hU b - 87=d at *
     generalize hU b - 97=e at *
     by_cases hd16:d<16
     ·have d4:decide ((16:Int)≤(d:Int))=false:=by simp;omega
      obtain⟨k1,k2,k3⟩:=Key.out d hd16
      clear hd16
      cases q1:decide ((48:Int)≤(b.toNat:Int))<;>cases q2:decide ((b.toNat:Int)≤57)<;>cases q3:((b.toNat:Int)==95)<;>simp only [q1,q2] at hnd<;>try (exfalso;cases hnd;done)
      all_goals clear hnd
      all_goals
       by_cases hm:acc * 16+d≤255
       ·have k4:decide ((255:Int)<((acc * 16+d:Nat):Int))=false:=by simp;omega
        have Hm:=au hm
        clear hm
        repeat' first | refine st ?_ | (refine ca ?_;apply hlw) | (refine br ?_ ?_<;>intro hb) | fail
        refine HI.out (i+1,acc * 16+d) _ _ (by have:=Hlt.out;simp only;omega) ⟨Hlt.out,Hm.out, ?_, ?_, ?_, ?_, ?_, ?_, ?_, ?_, ?_, ?_, ?_,rfl⟩
        all_goals (simp only [go_sem, *];try rfl)
       ·have k4:decide ((255:Int)<((acc * 16+d:Nat):Int))=true:=by simp;omega
        have h3:=H3.out
        clear hm
        repeat' first | refine st ?_ | (refine ca ?_;apply hlw) | (refine br ?_ ?_<;>intro hb) | fail
        refine fR Tryz.results293 ?_
        exact h3
     ·have d4:decide ((16:Int)≤(d:Int))=true:=by simp;omega
      have h2:=H2.out
      clear hd16
      cases q1:decide ((48:Int)≤(b.toNat:Int))<;>cases q2:decide ((b.toNat:Int)≤57)<;>cases q3:((b.toNat:Int)==95)<;>simp only [q1,q2] at hnd<;>try (exfalso;cases hnd;done)
      all_goals clear hnd
      all_goals
       repeat' first | refine st ?_ | (refine ca ?_;apply hlw) | (refine br ?_ ?_<;>intro hb) | fail
       refine fR Tryz.results293 ?_
       exact h2
    ·have hle:(decide ((97:Int)≤(hU b:Int))&&decide ((hU b:Int)≤122))=false:=by
      rw [fm];simp;omega
     have h2:=H2.out
     clear c1 c2
     cases q1:decide ((48:Int)≤(b.toNat:Int))<;>cases q2:decide ((b.toNat:Int)≤57)<;>cases q3:((b.toNat:Int)==95)<;>simp only [q1,q2] at hnd<;>try (exfalso;cases hnd;done)
     all_goals clear hnd
     all_goals
      cases q4:decide ((97:Int)≤(hU b:Int))<;>cases q5:decide ((hU b:Int)≤122)<;>simp only [q4,q5] at hle<;>try (exfalso;cases hle;done)
     all_goals clear hle
     all_goals
      repeat' first | refine st ?_ | (refine ca ?_;apply hlw) | (refine br ?_ ?_<;>intro hb) | fail
      refine fR Tryz.results293 ?_
      exact h2
  ·have hil:i=s.length:=by omega
   subst hil
   have h1:decide ((s.length:Int)<(s.length:Int))=false:=by simp
   have hh:=H1.out acc
   clear hlt hi hacc hs
   repeat' first | refine st ?_ | (refine br ?_ ?_<;>intro hb) | fail
   refine fR Tryz.results293 ?_
   exact hh
def KS (w0:World):Prop:=∃ ev,w0.cell? ⟨7,0,none⟩=some ev∧(ev=.nilIface∨∃ te pe,ev=.iface te pe)
theorem IW (w0:World) (hS:KS w0) (S:List aH) (s:List UInt8) (hs:s.length≤100000) (R:Rt) (h:∀ v:Value,R (.ret (.ifc 302 (.val v))) S) :
  az Tryz.prog w0 247 [.str [80,97,114,115,101,85,105,110,116],.str s,.int .i64 16,.int .i64 8,Df] S R:=by
 refine az.libR (vs:=[.string ⟨#[80,97,114,115,101,85,105,110,116]⟩,.string ⟨s.toArray⟩,.int .i64 16,.int .i64 8,.iface 299 (.int .i64 1)]) (Go.Proofs.enters_of Tryz.func247 (by kernel_rfl) rfl) rfl ?_
 intro w hb
 obtain⟨ev,hv,hev⟩:=hS
 refine(Go.Proofs.Any.strconv_toError_range Go.Proofs.Tryz.laysC245 ⟨#[80,97,114,115,101,85,105,110,116]⟩ ⟨s.toArray⟩ 16 8 ev w ?_ ?_ hev).mono ?_
 ·show s.toArray.size≤_
  simp;omega
 ·exact(hb.cell (gN _ _ hv)).trans hv
 ·rintro e w' ⟨N,rfl,hN,hc,hbw⟩
  exact⟨_,rfl,hbw,.ifc 302 (.val (.pointer (some ⟨N,0,none⟩))),fun ι ψ=>.ifc _ _ _ (.val _ rfl),h _⟩
theorem IV (w0:World) (hS:EB w0) (S:List aH) (s:List UInt8) (hs:s.length≤100000) (R:Rt) (h:∀ v:Value,R (.ret (.ifc 302 (.val v))) S) :
  az Tryz.prog w0 247 [.str [80,97,114,115,101,85,105,110,116],.str s,.int .i64 16,.int .i64 8,qW] S R:=by
 refine az.libR (vs:=[.string ⟨#[80,97,114,115,101,85,105,110,116]⟩,.string ⟨s.toArray⟩,.int .i64 16,.int .i64 8,.iface 299 (.int .i64 2)]) (Go.Proofs.enters_of Tryz.func247 (by kernel_rfl) rfl) rfl ?_
 intro w hb
 obtain⟨ev,hv,hev⟩:=hS
 refine(Go.Proofs.Any.strconv_toError_syntax Go.Proofs.Tryz.laysC245 ⟨#[80,97,114,115,101,85,105,110,116]⟩ ⟨s.toArray⟩ 16 8 ev w ?_ ?_ hev).mono ?_
 ·show s.toArray.size≤_
  simp;omega
 ·exact(hb.cell (gN _ _ hv)).trans hv
 ·rintro e w' ⟨N,rfl,hN,hc,hbw⟩
  exact⟨_,rfl,hbw,.ifc 302 (.val (.pointer (some ⟨N,0,none⟩))),fun ι ψ=>.ifc _ _ _ (.val _ rfl),h _⟩
theorem QS (w0:World) (hS:EB w0) (S:List aH) (a b:UInt8) (v:Nat) (hv:j9 a b=some v) (R:Rt) (h:R (.ret (.tup [.int .u64 v,.inil])) S):az Tryz.prog w0 250 [.str [a,b],.int .i64 16,.int .i64 8] S R :=
 ub w0 hS S a b R (fun v' hv'=>by rw [hv] at hv';cases hv';exact h) (fun e=>by rw [hv] at e;cases e)
theorem M8 (w0:World) (hS:EB w0) (S:List aH) (a b:UInt8) (hv:j9 a b=none) (R:Rt) (h:∀ t x,R (.ret (.tup [.int .u64 0,.ifc t x])) S):az Tryz.prog w0 250 [.str [a,b],.int .i64 16,.int .i64 8] S R :=
 ub w0 hS S a b R (fun v' hv'=>by rw [hv] at hv';cases hv') (fun _=>h)
theorem QR (w0:World) (hS:EB w0) (hG:KS w0) (S:List aH) (s:List UInt8) (hs:s.length≤100000) (R:Rt) (h1:∀ v:Nat,R (.ret (.tup [.int .u64 v,.inil])) S) (h2:∀ (v:Nat) t x,R (.ret (.tup [.int .u64 v,.ifc t x])) S):az Tryz.prog w0 250 [.str s,.int .i64 16,.int .i64 8] S R:=by
 have heS:=fun S'=>IV w0 hS S' s hs
 have heR:=fun S'=>IW w0 hG S' s hs
 have hc0:((0:Nat):Int)=0:=rfl
 have h20:∀ t x,R (.ret (.tup [.int .u64 0,.ifc t x])) S:=h2 0
 have h21:∀ t x,R (.ret (.tup [.int .u64 255,.ifc t x])) S:=h2 255
 unfold qW at heS
 unfold Df at heR
 by_cases hn:s=[]
 ·subst hn
  have hp:=MX w0
  unfold qW at hp
  clear hS hG h1 h2 h21 heR
  refine eN Tryz.func250 rfl Tryz.ntmps250 fun hO=>?_
  repeat' first | refine st ?_ | (refine ca ?_;first | apply hp | apply heS) | (refine br ?_ ?_<;>intro hb) | fail
  intro v
  repeat' first | refine st ?_ | (refine br ?_ ?_<;>intro hb) | fail
  refine fR Tryz.results250 ?_
  exact h20 _ _
 ·have hp:=fun S'=>QP w0 S' s hn hs
  unfold qW Df at hp
  clear hS hG h2 hs hn
  refine eN Tryz.func250 rfl Tryz.ntmps250 fun hO=>?_
  repeat' first | refine st ?_ | (refine ca ?_;apply hp) | (refine br ?_ ?_<;>intro hb) | fail
  ·intro v
   repeat' first | refine st ?_ | (refine br ?_ ?_<;>intro hb) | fail
   refine fR Tryz.results250 ?_
   exact h1 _
  ·repeat' first | refine st ?_ | (refine ca ?_;apply heS) | (refine br ?_ ?_<;>intro hb) | fail
   intro v
   repeat' first | refine st ?_ | (refine br ?_ ?_<;>intro hb) | fail
   refine fR Tryz.results250 ?_
   exact h20 _ _
  ·repeat' first | refine st ?_ | (refine ca ?_;apply heR) | (refine br ?_ ?_<;>intro hb) | fail
   intro v
   repeat' first | refine st ?_ | (refine br ?_ ?_<;>intro hb) | fail
   refine fR Tryz.results250 ?_
   exact h21 _ _
theorem DB (w0:World) (S:List aH) (s:List UInt8) (hs:s.length≤100000) (R:Rt) (h:∀ b,R (.ret (.sval b ((gi s).map AV.str))) S):az Tryz.prog w0 249 [.str s,.str [47]] S R:=by
 have hg:=fun S'=>Kt w0 S' s hs
 have hlt:ltL S.length ((gi s).map AV.str)=true:=dC.2 fun x hx=>by obtain⟨y,_,rfl⟩:=aX.1 hx;rfl
 have hpl:plainL ((gi s).map AV.str)=true:=by
  have:=tY (gi s) 0
  simpa [mL] using this
 generalize (gi s).map AV.str=F at h hg hlt hpl
 clear hs
 refine eN Tryz.func249 rfl Tryz.ntmps249 fun hO=>?_
 repeat' first | refine st ?_ | (refine ca ?_;apply hg) | (refine br ?_ ?_<;>intro hb) | fail
 intro b
 cases b
 all_goals
  repeat' first | refine st ?_ | (refine br ?_ ?_<;>intro hb) | fail
  refine fR Tryz.results249 ?_
  exact h _
def tH (s:List UInt8):Bool:=decide (4≤s.length)&&(s.take 4==[114,103,98,58])
theorem Kr (w0:World) (S:List aH) (s:List UInt8) (R:Rt) (h:R (.ret (.bool (tH s))) S):az Tryz.prog w0 274 [.str s,.str [114,103,98,58]] S R:=by
 unfold tH at h
 by_cases hl:4≤s.length
 ·have d1:decide ((4:Int)≤(s.length:Int))=true:=by simp;omega
  have hk:((4:Nat):Int)≤(s.length:Int):=by omega
  have hk2:(4:Int)≤(s.length:Int):=by omega
  have hc4:((4:Nat):Int)=4:=rfl
  have d2:decide (((4:Nat):Int)≤(s.length:Int))=true:=by simp;omega
  rw [decide_eq_true hl,cA] at h
  clear hl
  refine eN Tryz.func274 rfl Tryz.ntmps274 fun hO=>?_
  repeat' first | refine st ?_ | (refine br ?_ ?_<;>intro hb) | fail
  refine fR Tryz.results274 ?_
  exact h
 ·have d1:decide ((4:Int)≤(s.length:Int))=false:=by simp;omega
  have d2:decide (((4:Nat):Int)≤(s.length:Int))=false:=by simp;omega
  rw [decide_eq_false hl,bX] at h
  clear hl
  refine eN Tryz.func274 rfl Tryz.ntmps274 fun hO=>?_
  repeat' first | refine st ?_ | (refine br ?_ ?_<;>intro hb) | fail
  refine fR Tryz.results274 ?_
  exact h
def xO (s:List UInt8):AV:=if tH s then .tup [.str (s.drop 4),.bool true] else .tup [.str s,.bool false]
theorem Ma (w0:World) (S:List aH) (s:List UInt8) (R:Rt) (h:R (.ret (xO s)) S):az Tryz.prog w0 291 [.str s,.str [114,103,98,58]] S R:=by
 have hp:=fun S'=>Kr w0 S' s
 unfold xO at h
 cases hb:tH s with
 | false =>
  rw [hb] at h hp
  have h:R (.ret (.tup [.str s,.bool false])) S:=h
  clear hb
  refine eN Tryz.func291 rfl Tryz.ntmps291 fun hO=>?_
  repeat' first | refine st ?_ | (refine ca ?_;apply hp) | (refine br ?_ ?_<;>intro hb) | fail
  refine fR Tryz.results291 ?_
  exact h
 | true =>
  have hl:4≤s.length:=by unfold tH at hb;simp at hb;exact hb.1
  have hk:((4:Nat):Int)≤(s.length:Int):=by omega
  have hts:qR s.length s=s:=bQ
  rw [hb] at h hp
  have h:R (.ret (.tup [.str (s.drop 4),.bool true])) S:=h
  clear hb hl
  refine eN Tryz.func291 rfl Tryz.ntmps291 fun hO=>?_
  repeat' first | refine st ?_ | (refine ca ?_;apply hp) | (refine br ?_ ?_<;>intro hb) | fail
  refine fR Tryz.results291 ?_
  exact h
theorem Nj (w0:World) (S:List aH) (s:List UInt8) (R:Rt) (h:R (.ret (xO s)) S):az Tryz.prog w0 248 [.str s,.str [114,103,98,58]] S R:=by
 have hp:=fun S'=>Ma w0 S' s
 unfold xO at h hp
 cases hb:tH s with
 | false =>
  rw [hb] at h hp
  have h:R (.ret (.tup [.str s,.bool false])) S:=h
  have hp:∀ S' (R:Rt),R (.ret (.tup [.str s,.bool false])) S'→az Tryz.prog w0 291 [.str s,.str [114,103,98,58]] S' R:=hp
  clear hb
  refine eN Tryz.func248 rfl Tryz.ntmps248 fun hO=>?_
  repeat' first | refine st ?_ | (refine ca ?_;apply hp) | (refine br ?_ ?_<;>intro hb) | fail
  refine fR Tryz.results248 ?_
  exact h
 | true =>
  rw [hb] at h hp
  have h:R (.ret (.tup [.str (s.drop 4),.bool true])) S:=h
  have hp:∀ S' (R:Rt),R (.ret (.tup [.str (s.drop 4),.bool true])) S'→az Tryz.prog w0 291 [.str s,.str [114,103,98,58]] S' R:=hp
  clear hb
  generalize s.drop 4=d at h hp
  refine eN Tryz.func248 rfl Tryz.ntmps248 fun hO=>?_
  repeat' first | refine st ?_ | (refine ca ?_;apply hp) | (refine br ?_ ?_<;>intro hb) | fail
  refine fR Tryz.results248 ?_
  exact h
def rn:List UInt8→Option Nat
 | [a,b]=>j9 a b
 | _=>none
def oG:Nat→List (List UInt8)→Option Nat
 | n,[]=>some n
 | n,p::ps=>match rn p with | some k=>oG (n * 256+k) ps | none=>none
def un:List (List UInt8)→List UInt8
 | []=>[]
 | [w]=>w
 | w::ws=>w++47::un ws
theorem rS:∀ s,un (gi s)=s
 | []=>rfl
 | b::r=>by
  have ih:=rS r
  unfold gi
  split
  ·next h =>
   subst h
   cases hs:gi r with
   | nil=>exact absurd hs (CT r)
   | cons w ws=>rw [hs] at ih;simp [un,ih]
  ·split
   ·next e=>exact absurd e (CT r)
   ·next w ws e =>
    rw [e] at ih
    cases ws with
    | nil=>simp only [un] at ih ⊢;rw [ih]
    | cons w2 ws=>simp only [un,al] at ih ⊢;rw [ih]
theorem Am {b:UInt8}{x:Nat} (h:jF b=some x):b≠47∧b≠43∧b≠95:=by
 have:∀ n:Nat,n<256→(jF (aN n)).isSome=true→aN n≠47∧aN n≠43∧aN n≠95:=by decide +kernel
 have h2:=this b.toNat b.toNat_lt
 rw [cz] at h2
 exact h2 (by rw [h];rfl)
theorem lO {a b:UInt8}{x:Nat} (h:j9 a b=some x):(a≠47∧a≠43∧a≠95)∧(b≠47∧b≠43∧b≠95):=by
 unfold j9 at h
 cases h1:jF a with
 | none=>rw [h1] at h;simp at h
 | some u =>
  cases h2:jF b with
  | none=>rw [h1,h2] at h;simp at h
  | some v=>exact⟨Am h1,Am h2⟩
theorem A3 {a b c d e f:UInt8} (ha:a≠47) (hb:b≠47) (hc:c≠47) (hd:d≠47) (he:e≠47) (hf:f≠47):gi [a,b,47,c,d,47,e,f]=[[a,b],[c,d],[e,f]]:=by
 simp [gi,ha,hb,hc,hd,he,hf]
theorem sX {s:List UInt8}{n:Nat} (h:lr s=some n):tH s=true∧∃ p q r,gi (s.drop 4)=[p,q,r]∧oG 0 [p,q,r]=some n:=by
 unfold lr at h
 split at h
 ·next p0 p1 p2 p3 a b q c d r e f =>
  split at h
  ·next hp =>
   obtain⟨rfl,rfl,rfl,rfl,rfl,rfl⟩:=hp
   split at h
   ·next x y z hx hy hz =>
    cases h
    refine⟨rfl,[a,b],[c,d],[e,f], ?_, ?_⟩
    ·exact A3 (lO hx).1.1 (lO hx).2.1 (lO hy).1.1 (lO hy).2.1 (lO hz).1.1 (lO hz).2.1
    ·simp only [oG,rn,hx,hy,hz]
     congr 1
     omega
   ·cases h
  ·cases h
 ·cases h
theorem pj {p:List UInt8}{k:Nat} (h:rn p=some k):∃ a b,p=[a,b]∧j9 a b=some k:=by
 unfold rn at h
 split at h
 ·exact⟨_,_,rfl,h⟩
 ·cases h
theorem B5 {p q r:List UInt8}{n:Nat} (h:oG 0 [p,q,r]=some n):∃ a b c d e f x y z,p=[a,b]∧q=[c,d]∧r=[e,f]∧j9 a b=some x∧j9 c d=some y∧j9 e f=some z∧n=x * 65536+y * 256+z:=by
 simp only [oG] at h
 cases h1:rn p with
 | none=>rw [h1] at h;cases h
 | some x =>
  cases h2:rn q with
  | none=>rw [h1,h2] at h;cases h
  | some y =>
   cases h3:rn r with
   | none=>rw [h1,h2,h3] at h;cases h
   | some z =>
    rw [h1,h2,h3] at h
    simp only [bM] at h
    obtain⟨a,b,rfl,e1⟩:=pj h1
    obtain⟨c,d,rfl,e2⟩:=pj h2
    obtain⟨e,f,rfl,e3⟩:=pj h3
    exact⟨a,b,c,d,e,f,x,y,z,rfl,rfl,rfl,e1,e2,e3,by omega⟩
theorem KG {s p q r:List UInt8}{n:Nat} (hp:tH s=true) (hs:gi (s.drop 4)=[p,q,r]) (h:oG 0 [p,q,r]=some n):lr s=some n:=by
 obtain⟨a,b,c,d,e,f,x,y,z,rfl,rfl,rfl,e1,e2,e3,rfl⟩:=B5 h
 have hj:=rS (s.drop 4)
 rw [hs] at hj
 unfold tH at hp
 simp at hp
 have hsp:s=[114,103,98,58,a,b,47,c,d,47,e,f]:=by
  rw [← List.take_append_drop 4 s,hp.2,← hj]
  rfl
 rw [hsp]
 unfold lr
 simp only
 rw [if_pos (by simp),e1,e2,e3]
theorem El {s p q r:List UInt8} (hs:gi (s.drop 4)=[p,q,r]) (h:oG 0 [p,q,r]=none):lr s=none:=by
 cases hc:lr s with
 | none=>rfl
 | some n =>
  obtain⟨_,p',q',r',h1,h2⟩:=sX hc
  rw [hs] at h1
  cases h1
  rw [h] at h2;cases h2
def Mb:Option Nat→AV
 | some n=>.tup [.agg [.int .i64 2,.int .i64 n],.int .i64 0]
 | none=>.tup [.agg [.int .i64 0,.int .i64 0],.int .i64 6]
theorem Bn (w0:World) (hS:EB w0) (hG:KS w0) (S:List aH) (s:List UInt8) (hs:s.length≤10000) (R:Rt) (h:R (.ret (Mb (lr s))) S):az Tryz.prog w0 207 [.str s] S R:=by
 have hcut:=fun S'=>Nj w0 S' s
 unfold xO at hcut
 have bad:lr s=none→R (.ret (.tup [.agg [.int .i64 0,.int .i64 0],.int .i64 6])) S:=fun e=>by rw [e] at h;exact h
 have good:∀ n,lr s=some n→R (.ret (.tup [.agg [.int .i64 2,.int .i64 n],.int .i64 0])) S:=fun n e=>by rw [e] at h;exact h
 clear h
 cases hpx:tH s with
 | false =>
  have hb:=bad (by cases hc:lr s with | none=>rfl | some n=>have:=(sX hc).1;rw [hpx] at this;cases this)
  rw [hpx] at hcut
  have hcut:∀ S' (R:Rt),R (.ret (.tup [.str s,.bool false])) S'→az Tryz.prog w0 248 [.str s,.str [114,103,98,58]] S' R:=hcut
  have hsp:=fun S'=>DB w0 S' s (by omega)
  generalize (gi s).map AV.str=F at hsp
  clear bad good hpx hs hS hG
  refine eN Tryz.func207 rfl Tryz.ntmps207 fun hO=>?_
  repeat' first | refine st ?_ | (refine ca ?_;first | apply hcut | apply hsp) | (refine br ?_ ?_<;>intro hb) | fail
  intro b
  repeat' first | refine st ?_ | (refine br ?_ ?_<;>intro hb) | fail
  refine fR Tryz.results207 ?_
  exact hb
 | true =>
 rw [hpx] at hcut
 have hcut:∀ S' (R:Rt),R (.ret (.tup [.str (s.drop 4),.bool true])) S'→az Tryz.prog w0 248 [.str s,.str [114,103,98,58]] S' R:=hcut
 have hsp:=fun S'=>DB w0 S' (s.drop 4) (by simp;omega)
 by_cases h3:(gi (s.drop 4)).length=3
 case neg =>
  have hb:=bad (by cases hc:lr s with | none=>rfl | some n=>obtain⟨_,p,q,r,e,_⟩:=sX hc;rw [e] at h3;exact absurd rfl h3)
  have d1:((((gi (s.drop 4)).map AV.str).length:Int) != 3)=true:=by rw [bne_iff_ne,bB];omega
  generalize (gi (s.drop 4)).map AV.str=F at hsp d1
  generalize s.drop 4=u at hcut hsp
  clear bad good hpx hs h3 hS hG
  refine eN Tryz.func207 rfl Tryz.ntmps207 fun hO=>?_
  repeat' first | refine st ?_ | (refine ca ?_;first | apply hcut | apply hsp) | (refine br ?_ ?_<;>intro hb) | fail
  intro b
  repeat' first | refine st ?_ | (refine br ?_ ?_<;>intro hb) | fail
  refine fR Tryz.results207 ?_
  exact hb
 case pos =>
  obtain⟨p,q,r,hL⟩:∃ p q r,gi (s.drop 4)=[p,q,r]:=by
   match hm:gi (s.drop 4),h3 with
   | [p,q,r],_=>exact⟨p,q,r,rfl⟩
  have good2:∀ n,oG 0 [p,q,r]=some n→R (.ret (.tup [.agg [.int .i64 2,.int .i64 n],.int .i64 0])) S:=fun n e=>good n (KG hpx hL e)
  have bad2:oG 0 [p,q,r]=none→R (.ret (.tup [.agg [.int .i64 0,.int .i64 0],.int .i64 6])) S:=fun e=>bad (El hL e)
  have hjl:=rS (s.drop 4)
  rw [hL] at hsp hjl
  have hlen:∀ x∈[p,q,r],x.length≤100000:=by
   have hl:=congrArg lz hjl
   simp [un] at hl
   intro x hx
   simp only [dj,List.not_mem_nil,or_false] at hx
   rcases hx with rfl | rfl | rfl<;>omega
  simp only [aG,aL] at hsp
  generalize s.drop 4=u at hcut hsp
  have Good:=au good2
  have Bad:=au bad2
  have Hlen:=au hlen
  have HSS:=au hS
  have HGG:=au hG
  clear bad good good2 bad2 hpx hs h3 hL hjl hlen hS hG
  refine eN Tryz.func207 rfl Tryz.ntmps207 fun hO=>?_
  repeat' first | refine st ?_ | (refine ca ?_;first | apply hcut | apply hsp) | (refine br ?_ ?_<;>intro hb) | fail
  intro b
  repeat' first | refine st ?_ | (refine br ?_ ?_<;>intro hb) | fail
  have hc3:((3:Nat):Int)=3:=rfl
  refine dX (fun (p':Nat × Nat × List (List UInt8)) env S'=>p'.1≤3∧[p,q,r].drop p'.1=p'.2.2∧p'.2.1<256 ^ p'.1∧oG p'.2.1 p'.2.2=oG 0 [p,q,r]∧env 1000000=.dfr []∧env 2=.own S.length 0∧env 7=.int .i64 (p'.2.1:Int)∧env 27=.sval b [.str p,.str q,.str r]∧env 28=.int .i64 3∧env 29=.int .i64 (p'.1:Int) ∧
   S'=S++[aH.cells [.int .i64 0,.int .i64 0]]) (fun p'=>3 - p'.1) (0,0,[p,q,r]) ?_ ?_
  ·exact⟨by omega,rfl,by simp,rfl,ss,ss,ss,ss,ss,ss,rfl⟩
  ·rintro⟨k,n,rest⟩ env S' ⟨hk,hrest,hn,hacc,e0,f2,f7,f27,f28,f29,rfl⟩ IH
   simp only at hk hrest hn hacc f7 f29
   have HI:=au IH
   clear IH hcut hsp hc3
   have hp3:256 ^ k≤256 ^ 3:=gx (by omega) hk
   have hp3':(256:Nat) ^ 3=16777216:=by decide
   by_cases hlt:k<3
   ·obtain⟨x,rr,rfl⟩:∃ x rr,rest=x::rr:=by
     cases rest with
     | nil=>have:=congrArg lz hrest;simp at this;omega
     | cons x rr=>exact⟨x,rr,rfl⟩
    have hx0:[p,q,r][k]? = some x:=by
     have:=congrArg List.head? hrest
     simpa [List.head?_drop] using this
    have hxl:=Hlen.out x (aI hx0)
    have hx:([AV.str p,AV.str q,AV.str r])[k]? = some (.str x):=by
     have:([p,q,r].map AV.str)[k]? = some (.str x):=by rw [aQ,hx0];rfl
     exact this
    have hr2:[p,q,r].drop (k+1)=rr:=by
     rw [← List.drop_drop,hrest];rfl
    have h1:decide ((k:Int)<3)=true:=by simp;omega
    have hk6:(k:Int)<((3:Nat):Int):=by omega
    have hw:ar.wrap ((k:Int)+1)=(k:Int)+1:=ay _ (by omega)
    clear hx0 hrest
    cases hh2:rn x with
    | some v =>
     obtain⟨a1,b1,rfl,hv⟩:=pj hh2
     have hvl:=ro hv
     obtain⟨⟨_,n1,n2⟩,_⟩:=lO hv
     have m1:((a1.toNat:Int)==43)=false:=by
      rw [beq_eq_false_iff_ne]
      intro e
      exact n1 (by rw [← cz (x:=a1),show a1.toNat=43 by omega];rfl)
     have m2:((a1.toNat:Int)==95)=false:=by
      rw [beq_eq_false_iff_ne]
      intro e
      exact n2 (by rw [← cz (x:=a1),show a1.toNat=95 by omega];rfl)
     have hpu:=fun S'=>QS w0 HSS.out S' a1 b1 v hv
     have hacc2:oG (n * 256+v) rr=oG 0 [p,q,r]:=by rw [← hacc];simp only [oG,hh2]
     have hn2:n * 256+v<256 ^ (k+1):=by rw [Nat.pow_succ];omega
     have hwv:ar.wrap (v:Int)=(v:Int):=ay _ (by omega)
     have hor:=M_ (a:=n) (b:=v) (k:=8) (by omega) (by omega) (by omega)
     have hor:ar.wrap (((aD ar.bits (ar.wrap ((n:Int) * 2 ^ min 8 64)) ||| aD ar.bits (v:Int)).toNat:Nat):Int)=((n * 256+v:Nat):Int):=hor
     simp only [bz] at hor
     have Hf:=au (cD hlt (cD hr2 (cD hn2 hacc2)))
     clear hlt hr2 hn2 hacc2 hacc hn hk hp3 hp3' hvl hv hh2 n1 n2 hxl
     repeat' first | refine st ?_ | (refine ca ?_;apply hpu) | (refine br ?_ ?_<;>intro hb) | fail
     obtain⟨hlt,hr2,hn2,hacc2⟩:=Hf.out
     refine HI.out (k+1,n * 256+v,rr) _ _ (by simp only;omega) ⟨hlt,hr2,hn2,hacc2, ?_, ?_, ?_, ?_, ?_, ?_,rfl⟩
     all_goals (simp only [go_sem, *];try rfl)
    | none =>
     have hbad:=Bad.out (by rw [← hacc];simp only [oG,hh2])
     by_cases hl2:x.length=2
     ·obtain⟨a1,b1,rfl⟩:∃ a1 b1,x=[a1,b1]:=by
       match x,hl2 with
       | [a1,b1],_=>exact⟨a1,b1,rfl⟩
      have hpu:=fun S'=>M8 w0 HSS.out S' a1 b1 hh2
      clear hlt hr2 hacc hn hk hp3 hp3' hh2 hxl hl2 HI
      repeat' first | refine st ?_ | (refine ca ?_;apply hpu) | (refine br ?_ ?_<;>intro hb) | fail
      intro t x'
      repeat' first | refine st ?_ | (refine br ?_ ?_<;>intro hb) | fail
      refine fR Tryz.results207 ?_
      exact hbad
     ·have hpu:=fun S'=>QR w0 HSS.out HGG.out S' x hxl
      have m1:((x.length:Int) != 2)=true:=by rw [bne_iff_ne];omega
      clear hlt hr2 hacc hn hk hp3 hp3' hh2 hxl hl2 HI
      repeat' first | refine st ?_ | (refine ca ?_;apply hpu) | (refine br ?_ ?_<;>intro hb) | fail
      ·intro v
       repeat' first | refine st ?_ | (refine br ?_ ?_<;>intro hb) | fail
       refine fR Tryz.results207 ?_
       exact hbad
      ·intro v t x'
       repeat' first | refine st ?_ | (refine br ?_ ?_<;>intro hb) | fail
       refine fR Tryz.results207 ?_
       exact hbad
   ·have hk3:k=3:=by omega
    subst hk3
    have hr0:rest=[]:=by rw [← hrest];rfl
    subst hr0
    have hg:=Good.out n (by rw [← hacc];rfl)
    have h1:decide ((3:Int)<3)=false:=by decide
    have hc3:((3:Nat):Int)=3:=rfl
    clear hlt hrest hacc hn hk hp3 hp3' HI
    repeat' first | refine st ?_ | (refine br ?_ ?_<;>intro hb) | fail
    refine fR Tryz.results207 ?_
    exact hg
theorem az.libV {P:Program}{w0:World}{S:List aH}{f:FuncId}{args:List AV}{vs:List Value}{v:AV}{c:Value}{R:ed→List aH→Prop} (he:∀ (a:Array Value) (w:World),(callFunc f a).run P w=.ok (.enter f a) w) (ha:args.map Ei=vs.map some)
  (hv:∀ ι ψ,VR ι ψ v c) (h:∀ w,mA w0.heap.size w0 w→Calls P f vs.toArray w fun e w'=>e=.returned c∧mA w.heap.size w w') (hR:R (.ret v) S):az P w0 f args S R:=by
 unfold az
 refine⟨he,fun ι ψ w cargs hRel hl hargs=>?_⟩
 have hlen:args.length=vs.length:=by simpa using congrArg lz ha
 have:cargs=vs.toArray:=by
  apply ma
  intro j
  by_cases hj:j<args.length
  ·have h1:args[j]? = some args[j]:=aC hj
   have h2:cargs[j]? = some cargs[j]:=bN (by omega)
   have h3:vs[j]? = some vs[j]:=aC (by omega)
   have h4:=hargs j _ _ h1 h2
   have h5:(args.map Ei)[j]? = (vs.map some)[j]?:=by rw [ha]
   simp only [aQ,h1,h3,dF,bM] at h5
   rw [h2]
   simp only [gJ,h3]
   rw [nG h4 h5]
  ·rw [dB (by omega),gJ,cT (by omega)]
 subst this
 refine(h w hRel.below).mono ?_
 rintro e w' ⟨rfl,hb⟩
 have hb0:mA w0.heap.size w w':=hb.mono hRel.n0
 exact⟨ι,ψ,.ret v,S,d_.refl _ _,hRel.grow hb0 (fun k hk=>hb.block k hk) (eA.le_refl _) (fun _ _ _ e=>.inl e) (fun _ _ _ e=>.inl e),hv _ _,hR⟩
def sM:List UInt8:=[48,49,50,51,52,53,54,55,56,57]
theorem GY (b:UInt8):sM.contains b=Ax b:=by
 have:∀ n,n<256→sM.contains (aN n)=Ax (aN n):=by decide +kernel
 have h:=this b.toNat b.toNat_lt
 rwa [cz] at h
theorem drop_nil {α:Type _} (p:α→Bool) (l:List α):l.dropWhile p=[]↔l.all p=true:=by
 induction l with
 | nil=>simp
 | cons b l ih =>
  rw [List.dropWhile_cons,AG]
  cases hb:p b with
  | true=>simp [ih]
  | false=>simp
theorem CG (w:List UInt8):jV w sM=[]↔w.all Ax=true:=by
 have e:(fun b=>sM.contains b)=Ax:=by funext b;exact GY b
 unfold jV Lib.trimLeftS Lib.trimRightS
 rw [drop_nil,e,rB]
 constructor
 ·intro h
  have h2:(w.reverse.dropWhile Ax)=[]:=by
   cases hd:w.reverse.dropWhile Ax with
   | nil=>rfl
   | cons b r =>
    rw [hd,AG,aB] at h
    have:=List.head_dropWhile_not Ax (l:=w.reverse) (by rw [hd];simp)
    simp only [hd,List.head_cons] at this
    rw [h.1] at this;cases this
  rw [drop_nil,rB] at h2
  exact h2
 ·intro h
  have:w.reverse.dropWhile Ax=[]:=by rw [drop_nil,rB];exact h
  rw [this];rfl
theorem Mf (w0:World) (S:List aH) (s:List UInt8) (hs:s.length≤10000000) (R:Rt) (h:R (.ret (.str (jV s sM))) S):az Tryz.prog w0 205 [.str s,.str [48,49,50,51,52,53,54,55,56,57]] S R:=by
 refine az.lib (vs:=[.string ⟨s.toArray⟩,.string ⟨#[48,49,50,51,52,53,54,55,56,57]⟩]) (v:=.str (jV s sM)) (c:=.string ⟨(jV s sM).toArray⟩) (Go.Proofs.enters_of Tryz.func205 (by kernel_rfl) rfl) rfl rfl ?_ h
 intro w hb
 refine(Go.Proofs.Any.strings_Trim_laid Go.Proofs.Tryz.lays160 (by kernel_rfl) ⟨s.toArray⟩ ⟨#[48,49,50,51,52,53,54,55,56,57]⟩ w ?_ (by decide) ?_).mono ?_
 ·rw [show (⟨s.toArray⟩:ByteArray).size=s.length from rfl];omega
 ·intro j b hj
  have:=aI hj
  simp at this
  rcases this with rfl | rfl | rfl | rfl | rfl | rfl | rfl | rfl | rfl | rfl<;>decide
 ·rintro e w' ⟨rfl,hb⟩
  exact⟨rfl,hb⟩
theorem atoi (w0:World) (S:List aH) (s:List UInt8) (n:Int) (hl:s.length≤18) (hn:Lib.atoi s=some n) (R:Rt) (h:R (.ret (.tup [.int .i64 n,.inil])) S):az Tryz.prog w0 206 [.str s] S R:=by
 refine az.libV (vs:=[.string ⟨s.toArray⟩]) (v:=.tup [.int .i64 n,.inil]) (c:=.tuple #[.int .i64 n,.nilIface]) (Go.Proofs.enters_of Tryz.func206 (by kernel_rfl) rfl) rfl ?_ ?_ h
 ·intro ι ψ
  refine .tup _ _ rfl ?_
  rintro(_ | _ | j) x v h1 h2
  ·cases h1;cases h2;exact .int _ _
  ·cases h1;cases h2;exact .inil
  ·simp at h1
 ·intro w hb
  refine(Go.Proofs.Any.strconv_Atoi Go.Proofs.Tryz.lays172 ⟨s.toArray⟩ n hl hn w).mono ?_
  rintro e w' ⟨rfl,t,rfl⟩
  exact⟨rfl,Lib.bytesWorld_below w _ t⟩
theorem L8:∀ (l:List UInt8) (acc:Nat),l.all Ax=true→Lib.decFrom acc l=some (l.foldl (fun n b=>n * 10+(b.toNat - 48)) acc)
 | [],acc,_=>rfl
 | b::l,acc,h=>by
  rw [AG,aB] at h
  have hb:=h.1
  simp only [Ax,aB,decide_eq_true_eq] at hb
  have h1:=L8 l (acc * 10+(b.toNat - 48)) h.2
  simp [Lib.decFrom,Lib.digitVal,hb,h1]
theorem Mi {w:List UInt8} (h1:w≠[]) (h3:w.all Ax=true):Lib.atoi w=some (qV w:Nat):=by
 cases w with
 | nil=>exact absurd rfl h1
 | cons b r =>
  have e1:=L8 (b::r) 0 h3
  have hb:=h3
  rw [AG,aB] at hb
  have hb:=hb.1
  simp only [Ax,aB,decide_eq_true_eq] at hb
  have n1:(b==45)=false:=by rw [beq_eq_false_iff_ne];rintro rfl;exact absurd hb.1 (by decide)
  have n2:(b==43)=false:=by rw [beq_eq_false_iff_ne];rintro rfl;exact absurd hb.1 (by decide)
  rw [Lib.atoi,n1,n2]
  simp only [du,if_false,Lib.decNat,List.isEmpty_cons,e1,dF]
  rfl
def iP:Option Ac→ed
 | some a=>.ret a.av
 | none=>.panic cq
def Li (s:List UInt8):Option Ac:=match kD s with
 | none=>none
 | some (h,t)=>match tK h,lr t with
  | some n,some c=>some ⟨45,n,0,2,c,[]⟩
  | _,_=>none
def Lh (s:List UInt8):Option Ac:=match kD s with
 | none=>none
 | some (w,t)=>if w=[99] then (match sR t with
  | some c=>if c.length≤378 then some ⟨46,0,0,0,0,c⟩ else none
  | none=>none) else none
theorem J9 (w0:World) (hS:EB w0) (hG:KS w0) (S:List aH) (s:List UInt8) (hs:s.length≤10000) (R:Rt) (h:R (iP (Li s)) S):az Tryz.prog w0 204 [.str s] S R:=by
 have ht:=fun S'=>J2 w0 S' s (by omega)
 have hmT:=lK w0
 have hmF:=lL w0
 unfold Li at h
 cases hq:kD s with
 | none =>
  rw [hq] at h ht
  unfold iP at h
  unfold uQ at ht
  unfold cq at h ht
  clear hq hs hmT hmF hS hG
  refine eN Tryz.func204 rfl Tryz.ntmps204 fun hO=>?_
  repeat' first | refine st ?_ | (refine ca ?_;apply ht) | (refine br ?_ ?_<;>intro hb) | fail
  refine fP ?_
  exact h
 | some q =>
 obtain⟨a,t⟩:=q
 obtain⟨hal,htl⟩:=vY hq
 rw [hq] at h ht
 unfold uQ at ht
 simp only at h ht
 have htr:=fun S'=>Mf w0 S' a (by omega)
 have bad:(match tK a,lr t with | some n,some c=>some (⟨45,n,0,2,c,[]⟩:Ac) | _,_=>none)=none→R (.panic cq) S:=fun e=>by rw [e] at h;exact h
 unfold cq at bad hmF
 by_cases h1:a=[]
 ·subst h1
  have hb:=bad rfl
  clear bad h hq hs hmT hal htl hS hG
  refine eN Tryz.func204 rfl Tryz.ntmps204 fun hO=>?_
  repeat' first | refine st ?_ | (refine ca ?_;first | apply ht | apply hmF) | (refine br ?_ ?_<;>intro hb) | fail
  refine fP ?_
  exact hb
 have d1:(a==[])=false:=by simpa using h1
 by_cases h2:a.length≤3
 case neg =>
  have hb:=bad (by unfold tK;rw [if_pos (.inr (.inl (by omega)))])
  have d2:decide ((a.length:Int)≤3)=false:=by simp;omega
  clear bad h hq hs hmT hal htl h1 h2 hS hG
  refine eN Tryz.func204 rfl Tryz.ntmps204 fun hO=>?_
  repeat' first | refine st ?_ | (refine ca ?_;first | apply ht | apply hmF) | (refine br ?_ ?_<;>intro hb) | fail
  refine fP ?_
  exact hb
 have d2:decide ((a.length:Int)≤3)=true:=by simp;omega
 have htn:=CG a
 cases h3:a.all Ax with
 | false =>
  have hb:=bad (by unfold tK;rw [if_pos (.inr (.inr (.inl h3)))])
  have d3:(jV a sM==[])=false:=by rw [beq_eq_false_iff_ne];intro e;rw [htn.1 e] at h3;cases h3
  generalize jV a sM=u at htr d3
  clear bad h hq hs hmT hal htl h1 h2 h3 htn hS hG
  refine eN Tryz.func204 rfl Tryz.ntmps204 fun hO=>?_
  repeat' first | refine st ?_ | (refine ca ?_;first | apply ht | apply htr | apply hmF) | (refine br ?_ ?_<;>intro hb) | fail
  refine fP ?_
  exact hb
 | true =>
  have d3:(jV a sM==[])=true:=by rw [beq_iff_eq];exact htn.2 h3
  have hat:=fun S'=>atoi w0 S' a (qV a:Nat) (by omega) (Mi h1 h3)
  have hco:=fun S'=>Bn w0 hS hG S' t (by omega)
  have hno:tK a=if 255<qV a then none else some (qV a):=by
   unfold tK
   by_cases hv:255<qV a
   ·rw [if_pos (.inr (.inr (.inr hv))),if_pos hv]
   ·rw [if_neg (by rintro(e | e | e | e);exact h1 e;omega;rw [h3] at e;cases e;exact hv e),if_neg hv]
  generalize jV a sM=u at htr d3
  by_cases hv:255<qV a
  ·rw [if_pos hv] at hno
   have hb:=bad (by rw [hno])
   have d4:decide ((qV a:Int)≤255)=false:=by simp;omega
   generalize (qV a:Int)=v at hat d4
   clear bad h hq hs hal htl h1 h2 h3 htn hS hG hno hv
   cases hc:lr t with
   | none =>
    rw [hc] at hco
    unfold Mb at hco
    simp only at hco
    clear hc
    refine eN Tryz.func204 rfl Tryz.ntmps204 fun hO=>?_
    repeat' first | refine st ?_ | (refine ca ?_;first | apply ht | apply htr | apply hat | apply hco | apply hmT | apply hmF) | (refine br ?_ ?_<;>intro hb) | fail
    refine fP ?_
    exact hb
   | some c =>
    rw [hc] at hco
    unfold Mb at hco
    simp only at hco
    clear hc
    refine eN Tryz.func204 rfl Tryz.ntmps204 fun hO=>?_
    repeat' first | refine st ?_ | (refine ca ?_;first | apply ht | apply htr | apply hat | apply hco | apply hmT | apply hmF) | (refine br ?_ ?_<;>intro hb) | fail
    refine fP ?_
    exact hb
  ·rw [if_neg hv] at hno
   have d4:decide ((qV a:Int)≤255)=true:=by simp;omega
   rw [hno] at h bad
   generalize qV a=v at hat d4 h bad
   clear hq hs hal htl h1 h2 h3 htn hS hG hno hv
   cases hc:lr t with
   | none =>
    rw [hc] at hco
    have hb:=bad (by rw [hc])
    unfold Mb at hco
    simp only at hco
    clear hc bad h
    refine eN Tryz.func204 rfl Tryz.ntmps204 fun hO=>?_
    repeat' first | refine st ?_ | (refine ca ?_;first | apply ht | apply htr | apply hat | apply hco | apply hmT | apply hmF) | (refine br ?_ ?_<;>intro hb) | fail
    refine fP ?_
    exact hb
   | some c =>
    rw [hc] at hco h
    unfold Mb at hco
    simp only at hco
    have h:R (.ret (.agg [.int .i64 45,.int .i64 (v:Int),.int .i64 0,.int .i64 2,.int .i64 (c:Int),.str []])) S:=h
    clear hc bad
    refine eN Tryz.func204 rfl Tryz.ntmps204 fun hO=>?_
    repeat' first | refine st ?_ | (refine ca ?_;first | apply ht | apply htr | apply hat | apply hco | apply hmT) | (refine br ?_ ?_<;>intro hb) | fail
    refine fR Tryz.results204 ?_
    exact h
theorem J8 (w0:World) (S:List aH) (s:List UInt8) (hs:s.length≤8192) (R:Rt) (h:R (iP (Lh s)) S):az Tryz.prog w0 208 [.str s] S R:=by
 have ht:=fun S'=>J2 w0 S' s (by omega)
 have hmT:=lK w0
 have hmF:=lL w0
 unfold Lh at h
 cases hq:kD s with
 | none =>
  rw [hq] at h ht
  unfold iP at h
  unfold uQ at ht
  unfold cq at h ht
  clear hq hs hmT hmF
  refine eN Tryz.func208 rfl Tryz.ntmps208 fun hO=>?_
  repeat' first | refine st ?_ | (refine ca ?_;apply ht) | (refine br ?_ ?_<;>intro hb) | fail
  refine fP ?_
  exact h
 | some q =>
 obtain⟨a,t⟩:=q
 obtain⟨hal,htl⟩:=vY hq
 rw [hq] at h ht
 unfold uQ at ht
 simp only at h ht
 have hde:=fun S'=>Gp w0 S' t (by omega)
 unfold KB at hde
 unfold cq at hmF
 by_cases h1:a=[99]
 ·subst h1
  rw [if_pos rfl] at h
  cases hd:sR t with
  | none =>
   rw [hd] at h hde
   unfold iP cq at h
   simp only at h hde
   clear hd hq hs hal htl hmT
   refine eN Tryz.func208 rfl Tryz.ntmps208 fun hO=>?_
   repeat' first | refine st ?_ | (refine ca ?_;first | apply ht | apply hde | apply hmF) | (refine br ?_ ?_<;>intro hb) | fail
   refine fP ?_
   exact h
  | some c =>
   rw [hd] at h hde
   simp only at h hde
   by_cases hc:c.length≤378
   ·rw [if_pos hc] at h
    have d1:decide ((c.length:Int)≤378)=true:=by simp;omega
    have h:R (.ret (.agg [.int .i64 46,.int .i64 0,.int .i64 0,.int .i64 0,.int .i64 0,.str c])) S:=h
    clear hd hq hs hal htl hmF hc
    refine eN Tryz.func208 rfl Tryz.ntmps208 fun hO=>?_
    repeat' first | refine st ?_ | (refine ca ?_;first | apply ht | apply hde | apply hmT) | (refine br ?_ ?_<;>intro hb) | fail
    refine fR Tryz.results208 ?_
    exact h
   ·rw [if_neg hc] at h
    have d1:decide ((c.length:Int)≤378)=false:=by simp;omega
    unfold iP cq at h
    simp only at h
    clear hd hq hs hal htl hmT hc
    refine eN Tryz.func208 rfl Tryz.ntmps208 fun hO=>?_
    repeat' first | refine st ?_ | (refine ca ?_;first | apply ht | apply hde | apply hmF) | (refine br ?_ ?_<;>intro hb) | fail
    refine fP ?_
    exact h
 ·rw [if_neg h1] at h
  have d1:(a==[99])=false:=by simpa using h1
  unfold iP cq at h
  simp only at h
  cases hd:sR t with
  | none =>
   rw [hd] at hde
   simp only at hde
   clear hd hq hs hal htl hmT h1
   refine eN Tryz.func208 rfl Tryz.ntmps208 fun hO=>?_
   repeat' first | refine st ?_ | (refine ca ?_;first | apply ht | apply hde | apply hmF) | (refine br ?_ ?_<;>intro hb) | fail
   refine fP ?_
   exact h
  | some c =>
   rw [hd] at hde
   simp only at hde
   clear hd hq hs hal htl hmT h1
   refine eN Tryz.func208 rfl Tryz.ntmps208 fun hO=>?_
   repeat' first | refine st ?_ | (refine ca ?_;first | apply ht | apply hde | apply hmF) | (refine br ?_ ?_<;>intro hb) | fail
   refine fP ?_
   exact h
theorem Gh (w0:World) (S:List aH) (a:Ac) (hs:a.text.length≤10000000) (hk:a.kind=46) (R:Rt) (h:R (if a=⟨46,0,0,0,0,a.text⟩∧a.text.length≤378 then .ret (.str (53::50::59::99::59::iW a.text)) else .panic cq) S):az Tryz.prog w0 116 [a.av] S R:=by
 have hpT:=fun S'=>vv w0 S' a ⟨a.kind,0,0,0,0,a.text⟩
 have hpF:=fun S'=>vw w0 S' a ⟨a.kind,0,0,0,0,a.text⟩
 have hmT:=lK w0
 have hmF:=lL w0
 obtain⟨k,n,m,ck,cn,t⟩:=a
 simp only at hk hs hpT hpF h
 subst hk
 unfold Ac.av at hpT hpF ⊢
 simp only at hpT hpF ⊢
 unfold cq at hmF
 by_cases he:(⟨46,n,m,ck,cn,t⟩:Ac)=⟨46,0,0,0,0,t⟩
 ·have hp:=fun S'=>hpT S' he
  by_cases hl:t.length≤378
  ·rw [if_pos ⟨he,hl⟩] at h
   have d1:decide ((t.length:Int)≤378)=true:=by simp;omega
   have hen:=fun S'=>Gn w0 S' t (by omega)
   have hfl:(iW t).length≤1000:=by
    have h1:=xI t
    unfold iW jf
    rw [ab,Cp]
    omega
   have hl5:5+(iW t).length≤9223372036854775807:=by omega
   generalize iW t=E at *
   clear hpT hpF he hl hs hmF hfl
   refine eN Tryz.func116 rfl Tryz.ntmps116 fun hO=>?_
   repeat' first | refine st ?_ | (refine ca ?_;first | apply hp | apply hen | apply hmT) | (refine br ?_ ?_<;>intro hb) | fail
   refine fR Tryz.results116 ?_
   exact h
  ·rw [if_neg (fun e=>hl e.2)] at h
   have d1:decide ((t.length:Int)≤378)=false:=by simp;omega
   unfold cq at h
   clear hpT hpF he hl hs hmT
   refine eN Tryz.func116 rfl Tryz.ntmps116 fun hO=>?_
   repeat' first | refine st ?_ | (refine ca ?_;first | apply hp | apply hmF) | (refine br ?_ ?_<;>intro hb) | fail
   refine fP ?_
   exact h
 ·have hp:=fun S'=>hpF S' he
  rw [if_neg (fun e=>he e.1)] at h
  unfold cq at h hp
  clear hpT hpF he hs hmT hmF
  refine eN Tryz.func116 rfl Tryz.ntmps116 fun hO=>?_
  repeat' first | refine st ?_ | (refine ca ?_;apply hp) | (refine br ?_ ?_<;>intro hb) | fail
  refine fP ?_
  exact h
theorem Gi (w0:World) (hT:Cl w0) (hD:AD w0) (hN:EO w0) (S:List aH) (a:Ac) (hk:a.kind=45) (R:Rt)
  (h:R (if a=⟨45,a.n,0,2,a.cn,[]⟩∧(0≤a.n∧a.n≤255)∧(0≤a.cn∧a.cn≤16777215) then .ret (.str (52::59::(cO a.n++59::kJ a.cn.toNat))) else .panic cq) S):az Tryz.prog w0 114 [a.av] S R:=by
 have hpT:=fun S'=>vv w0 S' a ⟨a.kind,a.n,0,a.ck,a.cn,[]⟩
 have hpF:=fun S'=>vw w0 S' a ⟨a.kind,a.n,0,a.ck,a.cn,[]⟩
 have hmT:=lK w0
 have hmF:=lL w0
 obtain⟨k,n,m,ck,cn,t⟩:=a
 simp only at hk hpT hpF h
 subst hk
 unfold Ac.av at hpT hpF ⊢
 simp only at hpT hpF ⊢
 unfold cq at hmF
 by_cases he:(⟨45,n,m,ck,cn,t⟩:Ac)=⟨45,n,0,ck,cn,[]⟩
 case neg =>
  have hp:=fun S'=>hpF S' he
  rw [if_neg (fun e=>he (by have h2:=e.1;simp only [Ac.mk.injEq] at h2 ⊢;exact⟨trivial,trivial,h2.2.2.1,trivial,trivial,h2.2.2.2.2.2⟩))] at h
  unfold cq at h hp
  clear hpT hpF he hmT hmF hT hD hN
  refine eN Tryz.func114 rfl Tryz.ntmps114 fun hO=>?_
  repeat' first | refine st ?_ | (refine ca ?_;apply hp) | (refine br ?_ ?_<;>intro hb) | fail
  refine fP ?_
  exact h
 case pos =>
 have hp:=fun S'=>hpT S' he
 have hm0:m=0∧t=[]:=by simp only [Ac.mk.injEq] at he;exact⟨he.2.2.1,he.2.2.2.2.2⟩
 obtain⟨rfl,rfl⟩:=hm0
 clear hpT hpF he
 by_cases hc:ck=2∧iX 2 cn=true
 ·obtain⟨rfl,hcb⟩:=hc
  have hb:0≤cn∧cn≤16777215:=by simpa [iX,vF] using hcb
  obtain⟨v,rfl⟩:∃ v:Nat,cn=v:=⟨cn.toNat,by omega⟩
  have htx:=fun S'=>Ig w0 hD S' 2 v v (by omega) hcb (fun S' R h=>LK w0 S' v hcb R h)
  by_cases hn:0≤n∧n≤255
  ·rw [if_pos ⟨rfl,hn,hb⟩] at h
   obtain⟨u,rfl⟩:∃ u:Nat,n=u:=⟨n.toNat,by omega⟩
   have hit:=fun S'=>itoa w0 hT S' (u:Int) (by omega) (by omega)
   have hil:=(sA u (by omega)).2.1
   have d1:decide ((0:Int)≤(u:Int))=true:=by simp
   have d2:decide ((u:Int)≤255)=true:=by simp;omega
   have hrl:(kJ v).length=12:=rfl
   rw [Int.toNat_natCast] at h
   generalize cO (u:Int)=I at *
   generalize kJ v=T at *
   have q1:2+I.length≤9223372036854775807:=by omega
   have q2:I.length+1+1+1≤9223372036854775807:=by omega
   have q3:I.length+3≤9223372036854775807:=by omega
   have q4:I.length+1+1+1+T.length≤9223372036854775807:=by omega
   have q5:I.length+3+T.length≤9223372036854775807:=by omega
   clear hcb hb hn hil hrl hmF hT hD hN
   refine eN Tryz.func114 rfl Tryz.ntmps114 fun hO=>?_
   repeat' first | apply dM | apply cW | apply cj | apply cX | apply dN | apply bv | apply dQ | apply bx | apply bl | apply bF | apply bw | apply bj | apply aZ | apply dP | (apply a_;(· rfl)) | (apply bD;simp only [aU]) | (apply bZ;(· rfl);(· simp only [go_sem, *,ab,ai];try rfl);(· rfl);simp only [putA]) | (apply cZ;simp only [putA]) | apply bG | (apply cI [];(· simp only [go_sem, *,ab,ai];try rfl);(· rfl);(· simp only [go_sem, *,ab,ai];try rfl);(· rfl);(iterate 2 (· simp only [go_sem, *,ab,ai];try rfl));(first | apply hp | apply htx | apply hit | apply hmT);simp only [aR,putA]) | (apply b_;(· simp only [go_sem, *,ab,ai];try rfl);(· rfl);(· simp only [go_sem, *,ab,ai];try rfl)) | (apply cF;(iterate 2 (· simp only [go_sem, *,ab,ai];try rfl));(· rfl);simp only [putA]) | (apply bi;(· simp only [go_sem, *,ab,ai];try rfl);(· rfl);simp only [putA]) | (apply ce;(· simp only [go_sem, *,ab,ai];try rfl)) | (apply ci;(· simp only [go_sem, *,ab,ai];try rfl)) | (apply bE;(· rfl);(fail_if_success (focus (show _=some true;(· simp only [go_sem, *,ab,ai];try rfl))));(· simp only [go_sem, *,ab,ai];try rfl);all_goals (intro hb;try simp only [ax,aA] at hb)) | (apply cg;(· simp only [go_sem, *,ab,ai];try rfl);all_goals (intro hb;try simp only [ax,aA] at hb)) | fail
   refine fR Tryz.results114 ?_
   exact h
  ·rw [if_neg (fun e=>hn e.2.1)] at h
   unfold cq at h
   by_cases hn0:0≤n
   ·have d1:decide ((0:Int)≤n)=true:=by simpa using hn0
    have d2:decide (n≤255)=false:=by simp;omega
    clear hcb hb hn hn0 hmT hT hD hN
    refine eN Tryz.func114 rfl Tryz.ntmps114 fun hO=>?_
    repeat' first | refine st ?_ | (refine ca ?_;first | apply hp | apply htx | apply hmF | apply hmT) | (refine br ?_ ?_<;>intro hb) | fail
    refine fP ?_
    exact h
   ·have d1:decide ((0:Int)≤n)=false:=by simpa using hn0
    clear hcb hb hn hn0 hmT hT hD hN
    refine eN Tryz.func114 rfl Tryz.ntmps114 fun hO=>?_
    repeat' first | refine st ?_ | (refine ca ?_;first | apply hp | apply htx | apply hmF | apply hmT) | (refine br ?_ ?_<;>intro hb) | fail
    refine fP ?_
    exact h
 ·have htx:=fun S' R (h:∀ x e,(((e:Int)==0)&&((ck:Int)==2))=false→R (.ret (.tup [.str x,.int .i64 e])) S')=>J3 w0 hD hN S' ck cn R (fun e1 e2=>absurd ⟨e1,e2⟩ hc) (fun x e _ e2=>h x e e2)
  rw [if_neg (fun e=>hc (by
   have h2:=e.1
   simp only [Ac.mk.injEq] at h2
   refine⟨h2.2.2.2.1, ?_⟩
   have:=e.2.2
   simp [iX,vF]
   exact this))] at h
  unfold cq at h
  clear hc hT hD hN
  refine eN Tryz.func114 rfl Tryz.ntmps114 fun hO=>?_
  repeat' first | refine st ?_ | (refine ca ?_;first | apply hp | apply htx) | (refine br ?_ ?_<;>intro hb) | fail
  intro x e hxe
  cases h1:((e:Int)==0) with
  | false =>
   clear hxe
   repeat' first | refine st ?_ | (refine ca ?_;apply hmF) | (refine br ?_ ?_<;>intro hb) | fail
   refine fP ?_
   exact h
  | true =>
   have h2:((ck:Int)==2)=false:=by rw [h1] at hxe;simpa using hxe
   clear hxe
   repeat' first | refine st ?_ | (refine ca ?_;apply hmF) | (refine br ?_ ?_<;>intro hb) | fail
   refine fP ?_
   exact h
def mO:Option (List UInt8)→ed
 | some s=>.ret (.str s)
 | none=>.panic cq
def M0:List (AV × AV):=[(.int .i64 44,.fn (.func 111) [] []),(.int .i64 45,.fn (.func 114) [] []),(.int .i64 46,.fn (.func 116) [] [])]
def MS:List (AV × AV):=[(.str [48],.fn (.func 203) [] []),(.str [50],.fn (.func 203) [] []),(.str [52],.fn (.func 204) [] []),(.str [53,50],.fn (.func 208) [] [])]
theorem Gd (w0:World) (S:List aH) (R:Rt) (h:R (.ret (.mval M0)) S):az Tryz.prog w0 51 [] S R:=by
 unfold M0 at h
 refine eN Tryz.func51 rfl Tryz.ntmps51 fun hO=>?_
 repeat' first | refine st ?_ | (refine br ?_ ?_<;>intro hb) | fail
 refine fR Tryz.results51 ?_
 exact h
theorem J7 (w0:World) (S:List aH) (R:Rt) (h:R (.ret (.mval MS)) S):az Tryz.prog w0 136 [] S R:=by
 unfold MS at h
 refine eN Tryz.func136 rfl Tryz.ntmps136 fun hO=>?_
 repeat' first | refine st ?_ | (refine br ?_ ?_<;>intro hb) | fail
 refine fR Tryz.results136 ?_
 exact h
theorem M5 {a:Ac} (h:a.kind=44):dc a=if a=⟨44,0,0,0,0,a.text⟩∧gZ a.text=true then some (50::59::a.text) else none:=by
 unfold dc
 split
 ·rfl
 ·rw [if_neg (fun e=>by rw [e.1] at h;cases h),if_neg (fun e=>by rw [e.1] at h;cases h)]
theorem M4 {a:Ac} (h:a.kind=45):dc a=if a=⟨45,a.n,0,2,a.cn,[]⟩∧(0≤a.n∧a.n≤255)∧(0≤a.cn∧a.cn≤16777215) then some (52::59::(cO a.n++59::kJ a.cn.toNat)) else none:=by
 unfold dc
 rw [if_neg (fun e=>by rw [e.1] at h;cases h)]
 split
 ·rfl
 ·rw [if_neg (fun e=>by rw [e.1] at h;cases h)]
theorem M3 {a:Ac} (h:a.kind=46):dc a=if a=⟨46,0,0,0,0,a.text⟩∧a.text.length≤378 then some (53::50::59::99::59::iW a.text) else none:=by
 unfold dc
 rw [if_neg (fun e=>by rw [e.1] at h;cases h),if_neg (fun e=>by rw [e.1] at h;cases h)]
theorem MZ {a:Ac} (h1:a.kind≠44) (h2:a.kind≠45) (h3:a.kind≠46):dc a=none:=by
 unfold dc
 rw [if_neg (fun e=>h1 (by rw [e.1])),if_neg (fun e=>h2 (by rw [e.1])),if_neg (fun e=>h3 (by rw [e.1]))]
theorem Gg (w0:World) (hT:Cl w0) (hD:AD w0) (hN:EO w0) (S:List aH) (a:Ac) (i:Nat) (ha:S[i]? = some (.cells [.int .i64 a.kind,.int .i64 a.n,.int .i64 a.m,.int .i64 a.ck,.int .i64 a.cn,.str a.text])) (hs:a.text.length≤10000000) (R:Rt) (h:R (mO (dc a)) S):az Tryz.prog w0 50 [.own i 0] S R:=by
 have hm:=Gd w0
 unfold M0 at hm
 have hmT:=lK w0
 have hmF:=lL w0
 unfold cq at hmF
 by_cases h4:a.kind=44
 ·have hp:=fun S'=>Gj w0 S' a hs h4
  rw [M5 h4] at h
  by_cases hc:a=⟨44,0,0,0,0,a.text⟩∧gZ a.text=true
  ·rw [if_pos hc] at h
   simp only [if_pos hc] at hp
   clear hc hs hT hD hN
   obtain⟨k,n,m,ck,cn,t⟩:=a
   simp only at h4 ha h hp
   subst h4
   unfold Ac.av at hp
   unfold mO at h
   simp only at hp h
   refine eN Tryz.func50 rfl Tryz.ntmps50 fun hO=>?_
   repeat' first | refine st ?_ | (refine ca ?_;first | apply hm | apply hmT | apply hp) | (refine br ?_ ?_<;>intro hb) | refine sd ?_ | apply aE | (apply aO;(· decide +kernel)) | refine bd ?_ ?_ | (refine cd ?_;first | apply hm | apply hmT | apply hp) | fail
   all_goals refine fR Tryz.results50 ?_
   all_goals exact h
  ·rw [if_neg hc] at h
   simp only [if_neg hc] at hp
   clear hc hs hT hD hN
   obtain⟨k,n,m,ck,cn,t⟩:=a
   simp only at h4 ha h hp
   subst h4
   unfold Ac.av cq at hp
   unfold mO cq at h
   simp only at hp h
   refine eN Tryz.func50 rfl Tryz.ntmps50 fun hO=>?_
   repeat' first | refine st ?_ | (refine ca ?_;first | apply hm | apply hmT | apply hp) | (refine br ?_ ?_<;>intro hb) | refine sd ?_ | apply aE | (apply aO;(· decide +kernel)) | refine bd ?_ ?_ | (refine cd ?_;first | apply hm | apply hmT | apply hp) | fail
   all_goals refine fP ?_
   all_goals exact h
 by_cases h5:a.kind=45
 ·have hp:=fun S'=>Gi w0 hT hD hN S' a h5
  rw [M4 h5] at h
  by_cases hc:a=⟨45,a.n,0,2,a.cn,[]⟩∧(0≤a.n∧a.n≤255)∧(0≤a.cn∧a.cn≤16777215)
  ·rw [if_pos hc] at h
   simp only [if_pos hc] at hp
   clear hc hs hT hD hN h4
   obtain⟨k,n,m,ck,cn,t⟩:=a
   simp only at h5 ha h hp
   subst h5
   unfold Ac.av at hp
   unfold mO at h
   simp only at hp h
   generalize (52::59::(cO n++59::kJ cn.toNat))=T at hp h
   refine eN Tryz.func50 rfl Tryz.ntmps50 fun hO=>?_
   repeat' first | refine st ?_ | (refine ca ?_;first | apply hm | apply hmT | apply hp) | (refine br ?_ ?_<;>intro hb) | refine sd ?_ | apply aE | (apply aO;(· decide +kernel)) | refine bd ?_ ?_ | (refine cd ?_;first | apply hm | apply hmT | apply hp) | fail
   all_goals refine fR Tryz.results50 ?_
   all_goals exact h
  ·rw [if_neg hc] at h
   simp only [if_neg hc] at hp
   clear hc hs hT hD hN h4
   obtain⟨k,n,m,ck,cn,t⟩:=a
   simp only at h5 ha h hp
   subst h5
   unfold Ac.av cq at hp
   unfold mO cq at h
   simp only at hp h
   refine eN Tryz.func50 rfl Tryz.ntmps50 fun hO=>?_
   repeat' first | refine st ?_ | (refine ca ?_;first | apply hm | apply hmT | apply hp) | (refine br ?_ ?_<;>intro hb) | refine sd ?_ | apply aE | (apply aO;(· decide +kernel)) | refine bd ?_ ?_ | (refine cd ?_;first | apply hm | apply hmT | apply hp) | fail
   all_goals refine fP ?_
   all_goals exact h
 by_cases h6:a.kind=46
 ·have hp:=fun S'=>Gh w0 S' a hs h6
  rw [M3 h6] at h
  by_cases hc:a=⟨46,0,0,0,0,a.text⟩∧a.text.length≤378
  ·rw [if_pos hc] at h
   simp only [if_pos hc] at hp
   clear hc hs hT hD hN h4 h5
   obtain⟨k,n,m,ck,cn,t⟩:=a
   simp only at h6 ha h hp
   subst h6
   unfold Ac.av at hp
   unfold mO at h
   simp only at hp h
   generalize (53::50::59::99::59::iW t)=T at hp h
   refine eN Tryz.func50 rfl Tryz.ntmps50 fun hO=>?_
   repeat' first | refine st ?_ | (refine ca ?_;first | apply hm | apply hmT | apply hp) | (refine br ?_ ?_<;>intro hb) | refine sd ?_ | apply aE | (apply aO;(· decide +kernel)) | refine bd ?_ ?_ | (refine cd ?_;first | apply hm | apply hmT | apply hp) | fail
   all_goals refine fR Tryz.results50 ?_
   all_goals exact h
  ·rw [if_neg hc] at h
   simp only [if_neg hc] at hp
   clear hc hs hT hD hN h4 h5
   obtain⟨k,n,m,ck,cn,t⟩:=a
   simp only at h6 ha h hp
   subst h6
   unfold Ac.av cq at hp
   unfold mO cq at h
   simp only at hp h
   refine eN Tryz.func50 rfl Tryz.ntmps50 fun hO=>?_
   repeat' first | refine st ?_ | (refine ca ?_;first | apply hm | apply hmT | apply hp) | (refine br ?_ ?_<;>intro hb) | refine sd ?_ | apply aE | (apply aO;(· decide +kernel)) | refine bd ?_ ?_ | (refine cd ?_;first | apply hm | apply hmT | apply hp) | fail
   all_goals refine fP ?_
   all_goals exact h
 ·rw [MZ h4 h5 h6] at h
  unfold mO cq at h
  simp only at h
  have b4:(a.kind==44)=false:=by simpa using h4
  have b5:(a.kind==45)=false:=by simpa using h5
  have b6:(a.kind==46)=false:=by simpa using h6
  clear hs hT hD hN h4 h5 h6
  obtain⟨k,n,m,ck,cn,t⟩:=a
  simp only at ha b4 b5 b6
  refine eN Tryz.func50 rfl Tryz.ntmps50 fun hO=>?_
  repeat' first | refine st ?_ | (refine ca ?_;first | apply hm | apply hmF) | (refine br ?_ ?_<;>intro hb) | refine sd ?_ | apply aE | (apply aO;(· decide +kernel)) | refine bd ?_ ?_ | (refine cd ?_;first | apply hm | apply hmF) | fail
  all_goals refine fP ?_
  all_goals exact h
theorem rq {P:Program}{w0:World}{g:FuncId}{args:List AV}{rv:AV}{S:List aH}{K:List aH→Prop}{G:Func}{id:Nat}{o0:Oper}{l:List Oper}{rest:Code}{ty:TypeId}{d:Nat} (env1:dK) (S1:List aH) (h1:P.funcs[g]? = some G) (h2:(G.name == "runtime.NumGoroutine")=false)
  (h3:G.body=some (.seq (.region id (o0::l).toArray false) rest)) (h4:o0.op=.call ⟨.builtin .recover,#[],#[]⟩) (h5:o0.guard=none) (h6:o0.type=ty) (h7:o0.dst=some d) (h8:d<G.ntmps) (h9:args.length≤G.ntmps) (h10:G.ntmps≤DS) (h11:G.results=#[])
  (h12:pW P w0 (o0::l).toArray G.ntmps l (eO (df args) d rv) S=some (env1,S1))
  (h13:ba P w0 S.length G.ntmps none [.it (.code rest)] (fun x env S'=>(x=.normal∨x=.ret)∧env DS=.dfr []∧gu S.length S S'∧K (S'.take S.length)) .normal env1 S1):wi P w0 g args rv S K :=
 ⟨G,id,o0,l,rest,ty,d,env1,S1,h1,h2,h3,h4,h5,h6,h7,h8,h9,h10,h11,h12,h13⟩
theorem Q2 (w0:World) (S:List aH) (K:List aH→Prop) (h:K S):wi Tryz.prog w0 110 [] .inil S K:=by
 refine rq (eO (eO (df []) 1 .inil) 0 .inil) S Tryz.func110 (by decide +kernel) rfl rfl rfl rfl rfl (by decide) (by rw [Tryz.ntmps110];simp) (by rw [Tryz.ntmps110];decide) rfl ?_ ?_
 ·rfl
 ·rw [Tryz.ntmps110]
  repeat' first | refine st ?_ | (refine br ?_ ?_<;>intro hb) | fail
  exact⟨.inl rfl,ss,fun _ _ _ e=>.inl e,by rw [bQ];exact h⟩
theorem Q1 (w0:World) (S:List aH) (K:List aH→Prop) (h:K S):wi Tryz.prog w0 110 [] cq S K:=by
 refine rq (eO (eO (df []) 1 cq) 0 cq) S Tryz.func110 (by decide +kernel) rfl rfl rfl rfl rfl (by decide) (by rw [Tryz.ntmps110];simp) (by rw [Tryz.ntmps110];decide) rfl ?_ ?_
 ·rfl
 ·rw [Tryz.ntmps110]
  repeat' first | apply dM | apply cW | apply cj | apply cX | apply dN | apply bv | apply dQ | apply bx | apply bl | apply bF | apply bw | apply bj | apply aZ | apply dP | (apply a_;(· rfl)) | (apply bD;simp only [aU]) | (apply bZ;(· rfl);(· simp only [go_sem, *,cq];try rfl);(· rfl);simp only [putA]) | (apply cZ;simp only [putA]) | apply bG | (apply b_;(· simp only [go_sem, *,cq];try rfl);(· rfl);(· simp only [go_sem, *,cq];try rfl)) | (apply cF;(iterate 2 (· simp only [go_sem, *,cq];try rfl));(· rfl);simp only [putA]) | (apply bi;(· simp only [go_sem, *,cq];try rfl);(· rfl);simp only [putA]) | (apply ce;(· simp only [go_sem, *,cq];try rfl)) | (apply ci;(· simp only [go_sem, *,cq];try rfl)) | (apply bE;(· rfl);(fail_if_success (focus (show _=some true;(· simp only [go_sem, *,cq];try rfl))));(· simp only [go_sem, *,cq];try rfl);all_goals (intro hb;try simp only [ax,aA] at hb)) | (apply cg;(· simp only [go_sem, *,cq];try rfl);all_goals (intro hb;try simp only [ax,aA] at hb)) | fail
  exact⟨.inl rfl,ss,fun _ _ _ e=>.inl e,by rw [bQ];exact h⟩
def MC:Option (List UInt8)→AV
 | some s=>.tup [.str s,.bool true]
 | none=>.tup [.str [],.bool false]
theorem Kb (w0:World) (S:List aH) (i:Nat) (cs:List AV) (ha:S[i]? = some (.cells cs)) (o:Option (List UInt8)) (hC:∀ R:ed→List aH→Prop,R (mO o) S→az Tryz.prog w0 50 [.own i 0] S R) (R:Rt) (h:R (.ret (MC o)) S):az Tryz.prog w0 49 [.fn (.func 50) [] [.own i 0]] S R:=by
 refine Ea Tryz.func49 rfl (by decide +kernel) (by rw [Tryz.ntmps49];simp) (by rw [Tryz.ntmps49];decide) (fun hO=>?_);rw [Tryz.ntmps49]
 cases o with
 | none =>
  unfold MC at h
  unfold mO at hC
  simp only at h hC
  unfold cq at hC
  repeat' first | refine st ?_ | (refine br ?_ ?_<;>intro hb) | fail
  apply rg
  ·(simp only [go_sem, *];try rfl)
  ·rfl
  ·(simp only [go_sem, *];try rfl)
  ·(simp only [go_sem, *];try rfl)
  ·rfl
  simp only [putA]
  repeat' first | refine st ?_ | (refine ca ?_;apply hC) | (refine br ?_ ?_<;>intro hb) | fail
  refine⟨_,_,_,ss,Q1 w0 _ _ ?_⟩
  refine⟨[.str [],.bool false],by (simp only [go_sem, *,Tryz.results49];try rfl),fun _ _ _ e=>.inl e,ss, ?_⟩
  rw [bQ]
  exact h
 | some s =>
  unfold MC at h
  unfold mO at hC
  simp only at h hC
  repeat' first | refine st ?_ | (refine br ?_ ?_<;>intro hb) | fail
  apply rg
  ·(simp only [go_sem, *];try rfl)
  ·rfl
  ·(simp only [go_sem, *];try rfl)
  ·(simp only [go_sem, *];try rfl)
  ·rfl
  simp only [putA]
  repeat' first | refine st ?_ | (refine ca ?_;apply hC) | (refine br ?_ ?_<;>intro hb) | fail
  refine⟨_,_,_,ss,Q2 w0 _ _ ?_⟩
  refine⟨[.str s,.bool true],by (simp only [go_sem, *,Tryz.results49];try rfl),fun _ _ _ e=>.inl e,ss, ?_⟩
  rw [bQ]
  exact h
theorem Gf (w0:World) (hT:Cl w0) (hD:AD w0) (hN:EO w0) (S:List aH) (a:Ac) (hs:a.text.length≤10000000) (R:Rt) (h:R (.ret (sa (dc a))) S):az Tryz.prog w0 28 [a.av] S R:=by
 have hc:=fun S' i ha=>Gg w0 hT hD hN S' a i ha hs
 have hd:=fun S' i ha=>Kb w0 S' i [.int .i64 a.kind,.int .i64 a.n,.int .i64 a.m,.int .i64 a.ck,.int .i64 a.cn,.str a.text] ha (dc a) (hc S' i ha)
 obtain⟨k,n,m,ck,cn,t⟩:=a
 unfold Ac.av
 simp only at hd ⊢
 clear hc hT hD hN hs
 generalize dc ⟨k,n,m,ck,cn,t⟩=o at hd h
 unfold MC at hd
 unfold sa at h
 cases o with
 | none =>
  simp only at hd h
  refine eN Tryz.func28 rfl Tryz.ntmps28 fun hO=>?_
  repeat' first | refine st ?_ | (refine ca ?_;(apply hd;(· simp only [go_sem, *];try rfl))) | (refine br ?_ ?_<;>intro hb) | fail
  refine fR Tryz.results28 ?_
  exact h
 | some s =>
  simp only at hd h
  refine eN Tryz.func28 rfl Tryz.ntmps28 fun hO=>?_
  repeat' first | refine st ?_ | (refine ca ?_;(apply hd;(· simp only [go_sem, *];try rfl))) | (refine br ?_ ?_<;>intro hb) | fail
  refine fR Tryz.results28 ?_
  exact h
theorem FV (w0:World) (hT:Cl w0) (hD:AD w0) (hN:EO w0):nJ w0:=fun S a ha R h=>Gf w0 hT hD hN S a (by omega) R h
end Go.Proofs.YthdbijpefkapnaaGreatDoor
