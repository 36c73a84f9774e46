/- A part of the proof. -/
import Derived.Test.YthdbijpefkapnaaGreatDoorOfWalk8
import Derived.Shelf.Strconv.ToErrorRange
import Derived.Shelf.Strconv.Atoi
import Derived.Lib.AtoiErrMem
set_option linter.all false
set_option maxHeartbeats 40000000
open And renaming intro → a7
open Array renaming ext_getElem? → ma, getElem?_eq_getElem → bm, getElem?_eq_none → dg
open BitVec renaming ofInt → ar
open Bool renaming and_eq_false_iff → gF, and_eq_true → aq, false_and → bO, false_eq_true → aZ, not_eq_false' → aE, not_eq_true' → ay, true_and → bP
open Go.IntKind renaming bits → bk, i64 → ae, u64 → aW, u8 → a6
open Go.IntWalk renaming i64_in → ai, u64_in → iQ, u8_in → cR
open Go.Lib renaming hid → ab, itoa → gD, trimS → jU
open Go.RowKit renaming Below → mv
open Go.World renaming block_lt_of_cell? → jy
open List renaming all_cons → tL, all_reverse → rN, append_assoc → aP, cons_append → fQ, getElem?_eq_getElem → ap, getElem?_eq_none → bR, getElem?_map → aJ, getElem?_toArray → gA, length → jI, length_append → ah, length_map → bi, map_cons → al, map_nil → aj, mem_cons → bD, mem_map → aN, mem_of_getElem? → ax, not_mem_nil → gZ, take → rg, take_length → bC, toList_toArray → bj
open Nat renaming pow_le_pow_right → gM, pow_succ → mw, zero_le → bf
open Option renaming map_some → dp
open Option.some renaming injEq → bl
open UInt8 renaming ofNat → az, ofNat_toNat → cw
namespace Go.Proofs.YthdbijpefkapnaaGreatDoor
open Go Go.Fen Go.Proofs.Tryz
attribute [local irreducible] aX WP ao dS i7 cJ aU cC
set_option maxRecDepth 8000
variable (w0:World) (S:List aH)
def Du:AV:=.ifc 299 (.int .i64 1)
theorem Iy{s:List UInt8}{i:Nat}{b:UInt8}(h:s[i]? = some b):(s.map jm)[i]? = some (.int .u8 (b.toNat:Int)):=by rw [aJ,h];rfl
theorem NF(R:Rt)(h2:R (.ret (.tup [.int .u64 0,ri])) S):ao prog w0 293 [.str [],.int .i64 16,.int .i64 8] S R:=by
 unfold ri at h2
 exact γR0 func293 ntmps293 results293 h2
theorem Rh(s:List UInt8)(hne:s≠[])(hs:s.length≤100000)(R:Rt)(h1:∀ v:Nat,R (.ret (.tup [.int .u64 v,.inil])) S)(h2:R (.ret (.tup [.int .u64 0,ri])) S)(h3:R (.ret (.tup [.int .u64 255,Du])) S) :
  ao prog w0 293 [.str s,.int .i64 16,.int .i64 8] S R:=by
 have hn0:(s==[])=false:=by simpa using hne
 have Hs:=ab hs
 clear hne hs
 unfold ri at h2
 unfold Du at h3
 have H1:=ab h1
 have H2:=ab h2
 have H3:=ab h3
 clear h1 h2 h3
 refine eN func293 rfl ntmps293 fun hO=>?_
 refine ε0 ?_
 apply oU
 ·exact ss
 ·rfl
 ·exact ss
 ·exact ss
 ·exact ss
 ·exact ss
 ·rfl
 simp only [putA]
 refine ε0 ?_
 have hffw:aW.wrap (aW.wrap (1 * 2 ^ min (aW.wrap 8).toNat 64) - 1)=255:=by decide +kernel
 have hlm:(s.map jm).length=s.length:=bi _
 refine cD (fun (p:Nat × Nat) env S'=>p.1≤s.length∧p.2≤255∧env 1000000=.dfr []∧env 1=.int .i64 16∧env 8=.bool false∧env 9=.str s∧env 10=.int .u64 1152921504606846976∧env 11=.int .u64 255∧env 12=.bool false∧env 13=.int .u64 p.2 ∧
  env 99=.sval false (s.map jm)∧env 100=.int .i64 s.length∧env 101=.int .i64 p.1∧S'=S) (fun p=>s.length - p.1) (0,0) ?_ ?_
 ·exact⟨bf _,ω,ss,ss,ss,ss,ss,ss,ss,ss,ss,ss,ss,rfl⟩
 ·rintro⟨i,acc⟩ env S' ⟨hi,hacc,e0,f1,f8,f9,f10,f11,f12,f13,f99,f100,f101,rfl⟩ IH
  have HI:=ab IH
  have hw16:a6.wrap 16=16:=δ
  have hw16':aW.wrap 16=16:=δ
  have hlw:=Ej w0
  clear IH hffw hlm
  simp only at f13 f101 hi hacc
  have hs:=Hs.out
  by_cases hlt:i<s.length
  ·obtain⟨b,hx⟩:∃ b,s[i]? = some b:=⟨_,ap hlt⟩
   have hb:=Iy hx
   clear hx
   have h1:decide ((i:Int)<(s.length:Int))=true:=by simpa using hlt
   have hwi:ae.wrap ((i:Int)+1)=((i+1:Nat):Int):=by rw [ai _ ω];rfl
   have Hlt:=ab hlt
   have d5:decide ((1152921504606846976:Int)≤(acc:Int))=false:=κ
   have w5:aW.wrap ((acc:Int) * 16)=((acc * 16:Nat):Int):=by rw [iQ _ ω];omega
   have key:∀ d:Nat,d<16→aW.wrap (d:Int)=(d:Int)∧aW.wrap (((acc * 16:Nat):Int)+(d:Int))=((acc * 16+d:Nat):Int)∧decide (((acc * 16+d:Nat):Int)<((acc * 16:Nat):Int))=false:=by
    intro d hd
    refine⟨iQ _ ω,by rw [iQ _ ω];omega,κ⟩
   clear hlt hacc hi hs
   have Key:=ab key
   clear key
   generalize s.map jm=B at *
   by_cases c1:48≤b.toNat∧b.toNat≤57
   ·have d1:decide ((48:Int)≤(b.toNat:Int))=true:=κ
    have d2:decide ((b.toNat:Int)≤57)=true:=κ
    have d3:((b.toNat:Int)==95)=false:=κ
    have w1:a6.wrap ((b.toNat:Int) - 48)=((b.toNat - 48:Nat):Int):=by rw [cR _ ω];omega
    have hd16:b.toNat - 48<16:=ω
    have d4:decide ((16:Int)≤((b.toNat - 48:Nat):Int))=false:=κ
    clear c1
    generalize hdd:b.toNat - 48=d at *
    obtain⟨k1,k2,k3⟩:=Key.out d hd16
    clear hdd hd16
    by_cases hm:acc * 16+d≤255
    ·have k4:decide ((255:Int)<((acc * 16+d:Nat):Int))=false:=κ
     have Hm:=ab hm
     clear hm
     refine ε1 hlw ?_
     refine HI.out (i+1,acc * 16+d) _ _ (by have:=Hlt.out;simp only;omega) ⟨Hlt.out,Hm.out, ?_, ?_, ?_, ?_, ?_, ?_, ?_, ?_, ?_, ?_, ?_,rfl⟩
     all_goals (simp only [go_sem, *];try rfl)
    ·have k4:decide ((255:Int)<((acc * 16+d:Nat):Int))=true:=κ
     have h3:=H3.out
     clear hm
     refine ε1 hlw ?_
     refine fR results293 ?_
     exact h3
   ·have hnd:(decide ((48:Int)≤(b.toNat:Int))&&decide ((b.toNat:Int)≤57))=false:=by
     rw [gF];simp;omega
    by_cases c2:97≤gX b∧gX b≤122
    ·have e1:decide ((97:Int)≤(gX b:Int))=true:=κ
     have e2:decide ((gX b:Int)≤122)=true:=κ
     have w1:a6.wrap ((gX b:Int) - 97)=((gX b - 97:Nat):Int):=by rw [cR _ ω];omega
     have w2:a6.wrap (((gX b - 97:Nat):Int)+10)=((gX b - 87:Nat):Int):=by rw [cR _ ω];omega
     clear c1 c2
     generalize gX b - 87=d at *
     generalize gX b - 97=e at *
     by_cases hd16:d<16
     ·have d4:decide ((16:Int)≤(d:Int))=false:=κ
      obtain⟨k1,k2,k3⟩:=Key.out d hd16
      clear hd16
      cases q1:decide ((48:Int)≤(b.toNat:Int))<;>cases q2:decide ((b.toNat:Int)≤57)<;>cases q3:((b.toNat:Int)==95)<;>simp only [q1,q2] at hnd<;>try (exfalso;cases hnd;done)
      all_goals clear hnd
      all_goals
       by_cases hm:acc * 16+d≤255
       ·have k4:decide ((255:Int)<((acc * 16+d:Nat):Int))=false:=κ
        have Hm:=ab hm
        clear hm
        refine ε1 hlw ?_
        refine HI.out (i+1,acc * 16+d) _ _ (by have:=Hlt.out;simp only;omega) ⟨Hlt.out,Hm.out, ?_, ?_, ?_, ?_, ?_, ?_, ?_, ?_, ?_, ?_, ?_,rfl⟩
        all_goals (simp only [go_sem, *];try rfl)
       ·have k4:decide ((255:Int)<((acc * 16+d:Nat):Int))=true:=κ
        have h3:=H3.out
        clear hm
        refine ε1 hlw ?_
        refine fR results293 ?_
        exact h3
     ·have d4:decide ((16:Int)≤(d:Int))=true:=κ
      have h2:=H2.out
      clear hd16
      cases q1:decide ((48:Int)≤(b.toNat:Int))<;>cases q2:decide ((b.toNat:Int)≤57)<;>cases q3:((b.toNat:Int)==95)<;>simp only [q1,q2] at hnd<;>try (exfalso;cases hnd;done)
      all_goals clear hnd
      all_goals
       refine ε1 hlw ?_
       refine fR results293 ?_
       exact h2
    ·have hle:(decide ((97:Int)≤(gX b:Int))&&decide ((gX b:Int)≤122))=false:=by
      rw [gF];simp;omega
     have h2:=H2.out
     clear c1 c2
     cases q1:decide ((48:Int)≤(b.toNat:Int))<;>cases q2:decide ((b.toNat:Int)≤57)<;>cases q3:((b.toNat:Int)==95)<;>simp only [q1,q2] at hnd<;>try (exfalso;cases hnd;done)
     all_goals clear hnd
     all_goals
      cases q4:decide ((97:Int)≤(gX b:Int))<;>cases q5:decide ((gX b:Int)≤122)<;>simp only [q4,q5] at hle<;>try (exfalso;cases hle;done)
     all_goals clear hle
     all_goals
      refine ε1 hlw ?_
      refine fR results293 ?_
      exact h2
  ·have hil:i=s.length:=ω
   subst hil
   have h1:decide ((s.length:Int)<(s.length:Int))=false:=χ
   have hh:=H1.out acc
   clear hlt hi hacc hs
   refine ε0 ?_
   refine fR results293 ?_
   exact hh
def LD(w0:World):Prop:=∃ ev,w0.cell? ⟨7,0,none⟩=some ev∧(ev=.nilIface∨∃ te pe,ev=.iface te pe)
theorem JJ(w0:World)(hS:LD w0)(S:List aH)(s:List UInt8)(hs:s.length≤100000)(R:Rt)(h:∀ v:Value,R (.ret (.ifc 302 (.val v))) S) :
  ao prog w0 247 [.str [80,97,114,115,101,85,105,110,116],.str s,.int .i64 16,.int .i64 8,Du] S R:=by
 refine ao.libR (vs:=[.string ⟨#[80,97,114,115,101,85,105,110,116]⟩,.string ⟨s.toArray⟩,.int .i64 16,.int .i64 8,.iface 299 (.int .i64 1)]) (Go.Proofs.enters_of func247 (by kernel_rfl) rfl) rfl ?_
 intro w hb
 obtain⟨ev,hv,hev⟩:=hS
 refine(Go.Proofs.Any.strconv_toError_range Go.Proofs.Tryz.laysC245 ⟨#[80,97,114,115,101,85,105,110,116]⟩ ⟨s.toArray⟩ 16 8 ev w ?_ ?_ hev).mono ?_
 ·show s.toArray.size≤_
  simp;omega
 ·exact(hb.cell (jy _ _ hv)).trans hv
 ·rintro e w' ⟨N,rfl,hN,hc,hbw⟩
  exact⟨_,rfl,hbw,.ifc 302 (.val (.pointer (some ⟨N,0,none⟩))),fun ι ψ=>.ifc _ _ _ (.val _ rfl),h _⟩
theorem JI(w0:World)(hS:Fe w0)(S:List aH)(s:List UInt8)(hs:s.length≤100000)(R:Rt)(h:∀ v:Value,R (.ret (.ifc 302 (.val v))) S) :
  ao prog w0 247 [.str [80,97,114,115,101,85,105,110,116],.str s,.int .i64 16,.int .i64 8,ri] S R:=by
 refine ao.libR (vs:=[.string ⟨#[80,97,114,115,101,85,105,110,116]⟩,.string ⟨s.toArray⟩,.int .i64 16,.int .i64 8,.iface 299 (.int .i64 2)]) (Go.Proofs.enters_of func247 (by kernel_rfl) rfl) rfl ?_
 intro w hb
 obtain⟨ev,hv,hev⟩:=hS
 refine(Go.Proofs.Any.strconv_toError_syntax Go.Proofs.Tryz.laysC245 ⟨#[80,97,114,115,101,85,105,110,116]⟩ ⟨s.toArray⟩ 16 8 ev w ?_ ?_ hev).mono ?_
 ·show s.toArray.size≤_
  simp;omega
 ·exact(hb.cell (jy _ _ hv)).trans hv
 ·rintro e w' ⟨N,rfl,hN,hc,hbw⟩
  exact⟨_,rfl,hbw,.ifc 302 (.val (.pointer (some ⟨N,0,none⟩))),fun ι ψ=>.ifc _ _ _ (.val _ rfl),h _⟩
theorem Rj(w0:World)(hS:Fe w0)(S:List aH)(a b:UInt8)(v:Nat)(hv:iV a b=some v)(R:Rt)(h:R (.ret (.tup [.int .u64 v,.inil])) S):ao prog w0 250 [.str [a,b],.int .i64 16,.int .i64 8] S R :=
 ur w0 hS S a b R (fun v' hv'=>by rw [hv] at hv';cases hv';exact h) (fun e=>by rw [hv] at e;cases e)
theorem NN(w0:World)(hS:Fe w0)(S:List aH)(a b:UInt8)(hv:iV a b=none)(R:Rt)(h:∀ t x,R (.ret (.tup [.int .u64 0,.ifc t x])) S):ao prog w0 250 [.str [a,b],.int .i64 16,.int .i64 8] S R :=
 ur w0 hS S a b R (fun v' hv'=>by rw [hv] at hv';cases hv') (fun _=>h)
theorem Ri(w0:World)(hS:Fe w0)(hG:LD w0)(S:List aH)(s:List UInt8)(hs:s.length≤100000)(R:Rt)(h1:∀ v:Nat,R (.ret (.tup [.int .u64 v,.inil])) S)(h2:∀ (v:Nat) t x,R (.ret (.tup [.int .u64 v,.ifc t x])) S):ao prog w0 250 [.str s,.int .i64 16,.int .i64 8] S R:=by
 have heS:=fun S'=>JI w0 hS S' s hs
 have heR:=fun S'=>JJ w0 hG S' s hs
 have hc0:((0:Nat):Int)=0:=rfl
 have h20:∀ t x,R (.ret (.tup [.int .u64 0,.ifc t x])) S:=h2 0
 have h21:∀ t x,R (.ret (.tup [.int .u64 255,.ifc t x])) S:=h2 255
 unfold ri at heS
 unfold Du at heR
 by_cases hn:s=[]
 ·subst hn
  have hp:=NF w0
  unfold ri at hp
  clear hS hG h1 h2 h21 heR
  refine eN func250 rfl ntmps250 fun hO=>?_
  repeat' first|refine st ?_|(refine ca ?_;first|apply hp|apply heS)|(refine br ?_ ?_<;>intro hb)|fail
  intro v
  repeat' first|refine st ?_|(refine br ?_ ?_<;>intro hb)|fail
  refine fR results250 ?_
  exact h20 _ _
 ·have hp:=fun S'=>Rh w0 S' s hn hs
  unfold ri Du at hp
  clear hS hG h2 hs hn
  refine eN func250 rfl ntmps250 fun hO=>?_
  repeat' first|refine st ?_|(refine ca ?_;apply hp)|(refine br ?_ ?_<;>intro hb)|fail
  ·intro v
   repeat' first|refine st ?_|(refine br ?_ ?_<;>intro hb)|fail
   refine fR results250 ?_
   exact h1 _
  ·repeat' first|refine st ?_|(refine ca ?_;apply heS)|(refine br ?_ ?_<;>intro hb)|fail
   intro v
   repeat' first|refine st ?_|(refine br ?_ ?_<;>intro hb)|fail
   refine fR results250 ?_
   exact h20 _ _
  ·repeat' first|refine st ?_|(refine ca ?_;apply heR)|(refine br ?_ ?_<;>intro hb)|fail
   intro v
   repeat' first|refine st ?_|(refine br ?_ ?_<;>intro hb)|fail
   refine fR results250 ?_
   exact h21 _ _
theorem D9(s:List UInt8)(hs:s.length≤100000)(R:Rt)(h:∀ b,R (.ret (.sval b ((fJ s).map AV.str))) S):ao prog w0 249 [.str s,.str [47]] S R:=by
 have hg:=fun S'=>KX w0 S' s hs
 have hlt:ltL S.length ((fJ s).map AV.str)=true:=c_.2 fun x hx=>by obtain⟨y,_,rfl⟩:=aN.1 hx;rfl
 have hpl:plainL ((fJ s).map AV.str)=true:=by
  have:=uj (fJ s) 0
  simpa [mK] using this
 generalize (fJ s).map AV.str=F at h hg hlt hpl
 clear hs
 refine eN func249 rfl ntmps249 fun hO=>?_
 refine ε1 hg ?_
 intro b
 cases b
 all_goals
  refine ε0 ?_
  refine fR results249 ?_
  exact h _
def tR(s:List UInt8):Bool:=decide (4≤s.length)&&(s.take 4==[114,103,98,58])
theorem KV(s:List UInt8)(R:Rt)(h:R (.ret (.bool (tR s))) S):ao prog w0 274 [.str s,.str [114,103,98,58]] S R:=by
 unfold tR at h
 by_cases hl:4≤s.length
 ·have d1:decide ((4:Int)≤(s.length:Int))=true:=κ
  have hk:((4:Nat):Int)≤(s.length:Int):=ω
  have hk2:(4:Int)≤(s.length:Int):=ω
  have hc4:((4:Nat):Int)=4:=rfl
  have d2:decide (((4:Nat):Int)≤(s.length:Int))=true:=κ
  rw [decide_eq_true hl,bP] at h
  clear hl
  exact γR0 func274 ntmps274 results274 h
 ·have d1:decide ((4:Int)≤(s.length:Int))=false:=κ
  have d2:decide (((4:Nat):Int)≤(s.length:Int))=false:=κ
  rw [decide_eq_false hl,bO] at h
  clear hl
  exact γR0 func274 ntmps274 results274 h
def ya(s:List UInt8):AV:=if tR s then .tup [.str (s.drop 4),.bool true] else .tup [.str s,.bool false]
theorem MQ(s:List UInt8)(R:Rt)(h:R (.ret (ya s)) S):ao prog w0 291 [.str s,.str [114,103,98,58]] S R:=by
 have hp:=fun S'=>KV w0 S' s
 unfold ya at h
 cases hb:tR s with
 | false =>
  rw [hb] at h hp
  have h:R (.ret (.tup [.str s,.bool false])) S:=h
  clear hb
  exact γR1 hp func291 ntmps291 results291 h
 | true =>
  have hl:4≤s.length:=by unfold tR at hb;simp at hb;exact hb.1
  have hk:((4:Nat):Int)≤(s.length:Int):=ω
  have hts:rg s.length s=s:=bC
  rw [hb] at h hp
  have h:R (.ret (.tup [.str (s.drop 4),.bool true])) S:=h
  clear hb hl
  exact γR1 hp func291 ntmps291 results291 h
theorem NZ(s:List UInt8)(R:Rt)(h:R (.ret (ya s)) S):ao prog w0 248 [.str s,.str [114,103,98,58]] S R:=by
 have hp:=fun S'=>MQ w0 S' s
 unfold ya at h hp
 cases hb:tR s with
 | false =>
  rw [hb] at h hp
  have h:R (.ret (.tup [.str s,.bool false])) S:=h
  have hp:∀ S' (R:Rt),R (.ret (.tup [.str s,.bool false])) S'→ao prog w0 291 [.str s,.str [114,103,98,58]] S' R:=hp
  clear hb
  exact γR1 hp func248 ntmps248 results248 h
 | true =>
  rw [hb] at h hp
  have h:R (.ret (.tup [.str (s.drop 4),.bool true])) S:=h
  have hp:∀ S' (R:Rt),R (.ret (.tup [.str (s.drop 4),.bool true])) S'→ao prog w0 291 [.str s,.str [114,103,98,58]] S' R:=hp
  clear hb
  generalize s.drop 4=d at h hp
  exact γR1 hp func248 ntmps248 results248 h
def qn:List UInt8→Option Nat
 | [a,b]=>iV a b
 | _=>none
def oD:Nat→List (List UInt8)→Option Nat
 | n,[]=>some n
 | n,p::ps=>match qn p with|some k=>oD (n * 256+k) ps|none=>none
def uA:List (List UInt8)→List UInt8
 | []=>[]
 | [w]=>w
 | w::ws=>w++47::uA ws
theorem rX:∀ s,uA (fJ s)=s
 | []=>rfl
 | b::r=>by
  have ih:=rX r
  unfold fJ
  split
  ·next h =>
   subst h
   cases hs:fJ r with
   | nil=>exact absurd hs (C9 r)
   | cons w ws=>rw [hs] at ih;simp [uA,ih]
  ·split
   ·next e=>exact absurd e (C9 r)
   ·next w ws e =>
    rw [e] at ih
    cases ws with
    | nil=>simp only [uA] at ih ⊢;rw [ih]
    | cons w2 ws=>simp only [uA,fQ] at ih ⊢;rw [ih]
theorem AM{b:UInt8}{x:Nat}(h:ec b=some x):b≠47∧b≠43∧b≠95:=by
 have:∀ n:Nat,n<256→(ec (az n)).isSome=true→az n≠47∧az n≠43∧az n≠95:=by decide +kernel
 have h2:=this b.toNat b.toNat_lt
 rw [cw] at h2
 exact h2 (by rw [h];rfl)
theorem lQ{a b:UInt8}{x:Nat}(h:iV a b=some x):(a≠47∧a≠43∧a≠95)∧(b≠47∧b≠43∧b≠95):=by
 unfold iV at h
 cases h1:ec a with
 | none=>rw [h1] at h;simp at h
 | some u =>
  cases h2:ec b with
  | none=>rw [h1,h2] at h;simp at h
  | some v=>exact⟨AM h1,AM h2⟩
theorem Bp{a b c d e f:UInt8}(ha:a≠47)(hb:b≠47)(hc:c≠47)(hd:d≠47)(he:e≠47)(hf:f≠47):fJ [a,b,47,c,d,47,e,f]=[[a,b],[c,d],[e,f]]:=by
 simp [fJ,ha,hb,hc,hd,he,hf]
theorem tl{s:List UInt8}{n:Nat}(h:iW s=some n):tR s=true∧∃ p q r,fJ (s.drop 4)=[p,q,r]∧oD 0 [p,q,r]=some n:=by
 unfold iW at h
 split at h
 ·next p0 p1 p2 p3 a b q c d r e f =>
  split at h
  ·next hp =>
   obtain⟨rfl,rfl,rfl,rfl,rfl,rfl⟩:=hp
   split at h
   ·next x y z hx hy hz =>
    cases h
    refine⟨rfl,[a,b],[c,d],[e,f], ?_, ?_⟩
    ·exact Bp (lQ hx).1.1 (lQ hx).2.1 (lQ hy).1.1 (lQ hy).2.1 (lQ hz).1.1 (lQ hz).2.1
    ·simp only [oD,qn,hx,hy,hz]
     congr 1
     omega
   ·cases h
  ·cases h
 ·cases h
theorem po{p:List UInt8}{k:Nat}(h:qn p=some k):∃ a b,p=[a,b]∧iV a b=some k:=by
 unfold qn at h
 split at h
 ·exact⟨_,_,rfl,h⟩
 ·cases h
theorem Ck{p q r:List UInt8}{n:Nat}(h:oD 0 [p,q,r]=some n):∃ a b c d e f x y z,p=[a,b]∧q=[c,d]∧r=[e,f]∧iV a b=some x∧iV c d=some y∧iV e f=some z∧n=x * 65536+y * 256+z:=by
 simp only [oD] at h
 cases h1:qn p with
 | none=>rw [h1] at h;cases h
 | some x =>
  cases h2:qn q with
  | none=>rw [h1,h2] at h;cases h
  | some y =>
   cases h3:qn r with
   | none=>rw [h1,h2,h3] at h;cases h
   | some z =>
    rw [h1,h2,h3] at h
    simp only [bl] at h
    obtain⟨a,b,rfl,e1⟩:=po h1
    obtain⟨c,d,rfl,e2⟩:=po h2
    obtain⟨e,f,rfl,e3⟩:=po h3
    exact⟨a,b,c,d,e,f,x,y,z,rfl,rfl,rfl,e1,e2,e3,ω⟩
theorem Lp{s p q r:List UInt8}{n:Nat}(hp:tR s=true)(hs:fJ (s.drop 4)=[p,q,r])(h:oD 0 [p,q,r]=some n):iW s=some n:=by
 obtain⟨a,b,c,d,e,f,x,y,z,rfl,rfl,rfl,e1,e2,e3,rfl⟩:=Ck h
 have hj:=rX (s.drop 4)
 rw [hs] at hj
 unfold tR at hp
 simp at hp
 have hsp:s=[114,103,98,58,a,b,47,c,d,47,e,f]:=by
  rw [← List.take_append_drop 4 s,hp.2,← hj]
  rfl
 rw [hsp]
 unfold iW
 simp only
 rw [if_pos χ,e1,e2,e3]
theorem EP{s p q r:List UInt8}(hs:fJ (s.drop 4)=[p,q,r])(h:oD 0 [p,q,r]=none):iW s=none:=by
 cases hc:iW s with
 | none=>rfl
 | some n =>
  obtain⟨_,p',q',r',h1,h2⟩:=tl hc
  rw [hs] at h1
  cases h1
  rw [h] at h2;cases h2
def MS:Option Nat→AV
 | some n=>.tup [.agg [.int .i64 2,.int .i64 n],.int .i64 0]
 | none=>.tup [.agg [.int .i64 0,.int .i64 0],.int .i64 6]
theorem BM(w0:World)(hS:Fe w0)(hG:LD w0)(S:List aH)(s:List UInt8)(hs:s.length≤10000)(R:Rt)(h:R (.ret (MS (iW s))) S):ao prog w0 207 [.str s] S R:=by
 have hcut:=fun S'=>NZ w0 S' s
 unfold ya at hcut
 have bad:iW s=none→R (.ret (.tup [.agg [.int .i64 0,.int .i64 0],.int .i64 6])) S:=fun e=>by rw [e] at h;exact h
 have good:∀ n,iW s=some n→R (.ret (.tup [.agg [.int .i64 2,.int .i64 n],.int .i64 0])) S:=fun n e=>by rw [e] at h;exact h
 clear h
 cases hpx:tR s with
 | false =>
  have hb:=bad (by cases hc:iW s with|none=>rfl|some n=>have:=(tl hc).1;rw [hpx] at this;cases this)
  rw [hpx] at hcut
  have hcut:∀ S' (R:Rt),R (.ret (.tup [.str s,.bool false])) S'→ao prog w0 248 [.str s,.str [114,103,98,58]] S' R:=hcut
  have hsp:=fun S'=>D9 w0 S' s ω
  generalize (fJ s).map AV.str=F at hsp
  clear bad good hpx hs hS hG
  refine eN func207 rfl ntmps207 fun hO=>?_
  repeat' first|refine st ?_|(refine ca ?_;first|apply hcut|apply hsp)|(refine br ?_ ?_<;>intro hb)|fail
  intro b
  repeat' first|refine st ?_|(refine br ?_ ?_<;>intro hb)|fail
  refine fR results207 ?_
  exact hb
 | true =>
 rw [hpx] at hcut
 have hcut:∀ S' (R:Rt),R (.ret (.tup [.str (s.drop 4),.bool true])) S'→ao prog w0 248 [.str s,.str [114,103,98,58]] S' R:=hcut
 have hsp:=fun S'=>D9 w0 S' (s.drop 4) κ
 by_cases h3:(fJ (s.drop 4)).length=3
 case neg =>
  have hb:=bad (by cases hc:iW s with|none=>rfl|some n=>obtain⟨_,p,q,r,e,_⟩:=tl hc;rw [e] at h3;exact absurd rfl h3)
  have d1:((((fJ (s.drop 4)).map AV.str).length:Int) != 3)=true:=by rw [bne_iff_ne,bi];omega
  generalize (fJ (s.drop 4)).map AV.str=F at hsp d1
  generalize s.drop 4=u at hcut hsp
  clear bad good hpx hs h3 hS hG
  refine eN func207 rfl ntmps207 fun hO=>?_
  repeat' first|refine st ?_|(refine ca ?_;first|apply hcut|apply hsp)|(refine br ?_ ?_<;>intro hb)|fail
  intro b
  repeat' first|refine st ?_|(refine br ?_ ?_<;>intro hb)|fail
  refine fR results207 ?_
  exact hb
 case pos =>
  obtain⟨p,q,r,hL⟩:∃ p q r,fJ (s.drop 4)=[p,q,r]:=by
   match hm:fJ (s.drop 4),h3 with
   | [p,q,r],_=>exact⟨p,q,r,rfl⟩
  have good2:∀ n,oD 0 [p,q,r]=some n→R (.ret (.tup [.agg [.int .i64 2,.int .i64 n],.int .i64 0])) S:=fun n e=>good n (Lp hpx hL e)
  have bad2:oD 0 [p,q,r]=none→R (.ret (.tup [.agg [.int .i64 0,.int .i64 0],.int .i64 6])) S:=fun e=>bad (EP hL e)
  have hjl:=rX (s.drop 4)
  rw [hL] at hsp hjl
  have hlen:∀ x∈[p,q,r],x.length≤100000:=by
   have hl:=congrArg jI hjl
   simp [uA] at hl
   intro x hx
   simp only [bD,gZ,or_false] at hx
   rcases hx with rfl|rfl|rfl<;>omega
  simp only [al,aj] at hsp
  generalize s.drop 4=u at hcut hsp
  have Good:=ab good2
  have Bad:=ab bad2
  have Hlen:=ab hlen
  have HSS:=ab hS
  have HGG:=ab hG
  clear bad good good2 bad2 hpx hs h3 hL hjl hlen hS hG
  refine eN func207 rfl ntmps207 fun hO=>?_
  repeat' first|refine st ?_|(refine ca ?_;first|apply hcut|apply hsp)|(refine br ?_ ?_<;>intro hb)|fail
  intro b
  repeat' first|refine st ?_|(refine br ?_ ?_<;>intro hb)|fail
  have hc3:((3:Nat):Int)=3:=rfl
  refine cD (fun (p':Nat × Nat × List (List UInt8)) env S'=>p'.1≤3∧[p,q,r].drop p'.1=p'.2.2∧p'.2.1<256 ^ p'.1∧oD p'.2.1 p'.2.2=oD 0 [p,q,r]∧env 1000000=.dfr []∧env 2=.own S.length 0∧env 7=.int .i64 (p'.2.1:Int)∧env 27=.sval b [.str p,.str q,.str r]∧env 28=.int .i64 3∧env 29=.int .i64 (p'.1:Int) ∧
   S'=S++[aH.cells [.int .i64 0,.int .i64 0]]) (fun p'=>3 - p'.1) (0,0,[p,q,r]) ?_ ?_
  ·exact⟨ω,rfl,χ,rfl,ss,ss,ss,ss,ss,ss,rfl⟩
  ·rintro⟨k,n,rest⟩ env S' ⟨hk,hrest,hn,hacc,e0,f2,f7,f27,f28,f29,rfl⟩ IH
   simp only at hk hrest hn hacc f7 f29
   have HI:=ab IH
   clear IH hcut hsp hc3
   have hp3:256 ^ k≤256 ^ 3:=gM ω hk
   have hp3':(256:Nat) ^ 3=16777216:=δ
   by_cases hlt:k<3
   ·obtain⟨x,rr,rfl⟩:∃ x rr,rest=x::rr:=by
     cases rest with
     | nil=>have:=congrArg jI hrest;simp at this;omega
     | cons x rr=>exact⟨x,rr,rfl⟩
    have hx0:[p,q,r][k]? = some x:=by
     have:=congrArg List.head? hrest
     simpa [List.head?_drop] using this
    have hxl:=Hlen.out x (ax hx0)
    have hx:([AV.str p,AV.str q,AV.str r])[k]? = some (.str x):=by
     have:([p,q,r].map AV.str)[k]? = some (.str x):=by rw [aJ,hx0];rfl
     exact this
    have hr2:[p,q,r].drop (k+1)=rr:=by
     rw [← List.drop_drop,hrest];rfl
    have h1:decide ((k:Int)<3)=true:=κ
    have hk6:(k:Int)<((3:Nat):Int):=ω
    have hw:ae.wrap ((k:Int)+1)=(k:Int)+1:=ai _ ω
    clear hx0 hrest
    cases hh2:qn x with
    | some v =>
     obtain⟨a1,b1,rfl,hv⟩:=po hh2
     have hvl:=rF hv
     obtain⟨⟨_,n1,n2⟩,_⟩:=lQ hv
     have m1:((a1.toNat:Int)==43)=false:=by
      rw [beq_eq_false_iff_ne]
      intro e
      exact n1 (by rw [← cw (x:=a1),show a1.toNat=43 by omega];rfl)
     have m2:((a1.toNat:Int)==95)=false:=by
      rw [beq_eq_false_iff_ne]
      intro e
      exact n2 (by rw [← cw (x:=a1),show a1.toNat=95 by omega];rfl)
     have hpu:=fun S'=>Rj w0 HSS.out S' a1 b1 v hv
     have hacc2:oD (n * 256+v) rr=oD 0 [p,q,r]:=by rw [← hacc];simp only [oD,hh2]
     have hn2:n * 256+v<256 ^ (k+1):=by rw [mw];omega
     have hwv:ae.wrap (v:Int)=(v:Int):=ai _ ω
     have hor:=NQ (a:=n) (b:=v) (k:=8) ω ω ω
     have hor:ae.wrap (((ar ae.bits (ae.wrap ((n:Int) * 2 ^ min 8 64)) ||| ar ae.bits (v:Int)).toNat:Nat):Int)=((n * 256+v:Nat):Int):=hor
     simp only [bk] at hor
     have Hf:=ab (a7 hlt (a7 hr2 (a7 hn2 hacc2)))
     clear hlt hr2 hn2 hacc2 hacc hn hk hp3 hp3' hvl hv hh2 n1 n2 hxl
     repeat' first|refine st ?_|(refine ca ?_;apply hpu)|(refine br ?_ ?_<;>intro hb)|fail
     obtain⟨hlt,hr2,hn2,hacc2⟩:=Hf.out
     refine HI.out (k+1,n * 256+v,rr) _ _ (by simp only;omega) ⟨hlt,hr2,hn2,hacc2, ?_, ?_, ?_, ?_, ?_, ?_,rfl⟩
     all_goals (simp only [go_sem, *];try rfl)
    | none =>
     have hbad:=Bad.out (by rw [← hacc];simp only [oD,hh2])
     by_cases hl2:x.length=2
     ·obtain⟨a1,b1,rfl⟩:∃ a1 b1,x=[a1,b1]:=by
       match x,hl2 with
       | [a1,b1],_=>exact⟨a1,b1,rfl⟩
      have hpu:=fun S'=>NN w0 HSS.out S' a1 b1 hh2
      clear hlt hr2 hacc hn hk hp3 hp3' hh2 hxl hl2 HI
      repeat' first|refine st ?_|(refine ca ?_;apply hpu)|(refine br ?_ ?_<;>intro hb)|fail
      intro t x'
      repeat' first|refine st ?_|(refine br ?_ ?_<;>intro hb)|fail
      refine fR results207 ?_
      exact hbad
     ·have hpu:=fun S'=>Ri w0 HSS.out HGG.out S' x hxl
      have m1:((x.length:Int) != 2)=true:=by rw [bne_iff_ne];omega
      clear hlt hr2 hacc hn hk hp3 hp3' hh2 hxl hl2 HI
      repeat' first|refine st ?_|(refine ca ?_;apply hpu)|(refine br ?_ ?_<;>intro hb)|fail
      ·intro v
       repeat' first|refine st ?_|(refine br ?_ ?_<;>intro hb)|fail
       refine fR results207 ?_
       exact hbad
      ·intro v t x'
       repeat' first|refine st ?_|(refine br ?_ ?_<;>intro hb)|fail
       refine fR results207 ?_
       exact hbad
   ·have hk3:k=3:=ω
    subst hk3
    have hr0:rest=[]:=by rw [← hrest];rfl
    subst hr0
    have hg:=Good.out n (by rw [← hacc];rfl)
    have h1:decide ((3:Int)<3)=false:=δ
    have hc3:((3:Nat):Int)=3:=rfl
    clear hlt hrest hacc hn hk hp3 hp3' HI
    repeat' first|refine st ?_|(refine br ?_ ?_<;>intro hb)|fail
    refine fR results207 ?_
    exact hg
theorem ao.libV{P:Program}{w0:World}{S:List aH}{f:FuncId}{args:List AV}{vs:List Value}{v:AV}{c:Value}{R:gL→List aH→Prop}(he:∀ (a:Array Value) (w:World),(callFunc f a).run P w=.ok (.enter f a) w)(ha:args.map EI=vs.map some)
  (hv:∀ ι ψ,VR ι ψ v c) (h:∀ w,mv w0.heap.size w0 w→Calls P f vs.toArray w fun e w'=>e=.returned c∧mv w.heap.size w w') (hR:R (.ret v) S):ao P w0 f args S R:=by
 unfold ao
 refine⟨he,fun ι ψ w cargs hRel hl hargs=>?_⟩
 have hlen:args.length=vs.length:=by simpa using congrArg jI ha
 have:cargs=vs.toArray:=by
  apply ma
  intro j
  by_cases hj:j<args.length
  ·have h1:args[j]? = some args[j]:=ap hj
   have h2:cargs[j]? = some cargs[j]:=bm ω
   have h3:vs[j]? = some vs[j]:=ap ω
   have h4:=hargs j _ _ h1 h2
   have h5:(args.map EI)[j]? = (vs.map some)[j]?:=by rw [ha]
   simp only [aJ,h1,h3,dp,bl] at h5
   rw [h2]
   simp only [gA,h3]
   rw [nG h4 h5]
  ·rw [dg ω,gA,bR ω]
 subst this
 refine(h w hRel.below).mono ?_
 rintro e w' ⟨rfl,hb⟩
 have hb0:mv w0.heap.size w w':=hb.mono hRel.n0
 exact⟨ι,ψ,.ret v,S,dW.refl _ _,hRel.grow hb0 (fun k hk=>hb.block k hk) (eo.le_refl _) (fun _ _ _ e=>.inl e) (fun _ _ _ e=>.inl e),hv _ _,hR⟩
def sX:List UInt8:=[48,49,50,51,52,53,54,55,56,57]
theorem Ik(b:UInt8):sX.contains b=sY b:=by
 have:∀ n,n<256→sX.contains (az n)=sY (az n):=by decide +kernel
 have h:=this b.toNat b.toNat_lt
 rwa [cw] at h
theorem drop_nil{α:Type _}(p:α→Bool)(l:List α):l.dropWhile p=[]↔l.all p=true:=by
 induction l with
 | nil=>simp
 | cons b l ih =>
  rw [List.dropWhile_cons,tL]
  cases hb:p b with
  | true=>simp [ih]
  | false=>simp
theorem CZ(w:List UInt8):jU w sX=[]↔w.all sY=true:=by
 have e:(fun b=>sX.contains b)=sY:=by funext b;exact Ik b
 unfold jU Lib.trimLeftS Lib.trimRightS
 rw [drop_nil,e,rN]
 constructor
 ·intro h
  have h2:(w.reverse.dropWhile sY)=[]:=by
   cases hd:w.reverse.dropWhile sY with
   | nil=>rfl
   | cons b r =>
    rw [hd,tL,aq] at h
    have:=List.head_dropWhile_not sY (l:=w.reverse) (by rw [hd];simp)
    simp only [hd,List.head_cons] at this
    rw [h.1] at this;cases this
  rw [drop_nil,rN] at h2
  exact h2
 ·intro h
  have:w.reverse.dropWhile sY=[]:=by rw [drop_nil,rN];exact h
  rw [this];rfl
theorem MX(s:List UInt8)(hs:s.length≤10000000)(R:Rt)(h:R (.ret (.str (jU s sX))) S):ao prog w0 205 [.str s,.str [48,49,50,51,52,53,54,55,56,57]] S R:=by
 refine ao.lib (vs:=[.string ⟨s.toArray⟩,.string ⟨#[48,49,50,51,52,53,54,55,56,57]⟩]) (v:=.str (jU s sX)) (c:=.string ⟨(jU s sX).toArray⟩) (Go.Proofs.enters_of func205 (by kernel_rfl) rfl) rfl rfl ?_ h
 intro w hb
 refine(Go.Proofs.Any.strings_Trim_laid Go.Proofs.Tryz.lays160 (by kernel_rfl) ⟨s.toArray⟩ ⟨#[48,49,50,51,52,53,54,55,56,57]⟩ w ?_ δ ?_).mono ?_
 ·rw [show (⟨s.toArray⟩:ByteArray).size=s.length from rfl];omega
 ·intro j b hj
  have:=ax hj
  simp at this
  rcases this with rfl|rfl|rfl|rfl|rfl|rfl|rfl|rfl|rfl|rfl<;>decide
 ·rintro e w' ⟨rfl,hb⟩
  exact⟨rfl,hb⟩
theorem atoi(s:List UInt8)(n:Int)(hl:s.length≤18)(hn:Lib.atoi s=some n)(R:Rt)(h:R (.ret (.tup [.int .i64 n,.inil])) S):ao prog w0 206 [.str s] S R:=by
 refine ao.libV (vs:=[.string ⟨s.toArray⟩]) (v:=.tup [.int .i64 n,.inil]) (c:=.tuple #[.int .i64 n,.nilIface]) (Go.Proofs.enters_of func206 (by kernel_rfl) rfl) rfl ?_ ?_ h
 ·intro ι ψ
  refine .tup _ _ rfl ?_
  rintro(_|_|j) x v h1 h2
  ·cases h1;cases h2;exact .int _ _
  ·cases h1;cases h2;exact .inil
  ·simp at h1
 ·intro w hb
  refine(Go.Proofs.Any.strconv_Atoi Go.Proofs.Tryz.lays172 ⟨s.toArray⟩ n hl hn w).mono ?_
  rintro e w' ⟨rfl,t,rfl⟩
  exact⟨rfl,Lib.bytesWorld_below w _ t⟩
theorem MN:∀ (l:List UInt8) (acc:Nat),l.all sY=true→Lib.decFrom acc l=some (l.foldl (fun n b=>n * 10+(b.toNat - 48)) acc)
 | [],acc,_=>rfl
 | b::l,acc,h=>by
  rw [tL,aq] at h
  have hb:=h.1
  simp only [sY,aq,decide_eq_true_eq] at hb
  have h1:=MN l (acc * 10+(b.toNat - 48)) h.2
  simp [Lib.decFrom,Lib.digitVal,hb,h1]
theorem MZ{w:List UInt8}(h1:w≠[])(h3:w.all sY=true):Lib.atoi w=some (kn w:Nat):=by
 cases w with
 | nil=>exact absurd rfl h1
 | cons b r =>
  have e1:=MN (b::r) 0 h3
  have hb:=h3
  rw [tL,aq] at hb
  have hb:=hb.1
  simp only [sY,aq,decide_eq_true_eq] at hb
  have n1:(b==45)=false:=by rw [beq_eq_false_iff_ne];rintro rfl;exact absurd hb.1 δ
  have n2:(b==43)=false:=by rw [beq_eq_false_iff_ne];rintro rfl;exact absurd hb.1 δ
  rw [Lib.atoi,n1,n2]
  simp only [aZ,if_false,Lib.decNat,List.isEmpty_cons,e1,dp]
  rfl
def iE:Option Ac→gL
 | some a=>.ret a.av
 | none=>.panic bE
def L4(s:List UInt8):Option Ac:=match iy s with
 | none=>none
 | some (h,t)=>match mR h,iW t with
  | some n,some c=>some ⟨45,n,0,2,c,[]⟩
  | _,_=>none
def L0(s:List UInt8):Option Ac:=match iy s with
 | none=>none
 | some (w,t)=>if w=[99] then (match qv t with
  | some c=>if c.length≤378 then some ⟨46,0,0,0,0,c⟩ else none
  | none=>none) else none
theorem KC(w0:World)(hS:Fe w0)(hG:LD w0)(S:List aH)(s:List UInt8)(hs:s.length≤10000)(R:Rt)(h:R (iE (L4 s)) S):ao prog w0 204 [.str s] S R:=by
 have ht:=fun S'=>Kv w0 S' s ω
 have hmT:=lM w0
 have hmF:=lN w0
 unfold L4 at h
 cases hq:iy s with
 | none =>
  rw [hq] at h ht
  unfold iE at h
  unfold vb at ht
  unfold bE at h ht
  clear hq hs hmT hmF hS hG
  refine eN func204 rfl ntmps204 fun hO=>?_
  refine ε1 ht ?_
  refine fP ?_
  exact h
 | some q =>
 obtain⟨a,t⟩:=q
 obtain⟨hal,htl⟩:=pC hq
 rw [hq] at h ht
 unfold vb at ht
 simp only at h ht
 have htr:=fun S'=>MX w0 S' a ω
 have bad:(match mR a,iW t with|some n,some c=>some (⟨45,n,0,2,c,[]⟩:Ac)|_,_=>none)=none→R (.panic bE) S:=fun e=>by rw [e] at h;exact h
 unfold bE at bad hmF
 by_cases h1:a=[]
 ·subst h1
  have hb:=bad rfl
  clear bad h hq hs hmT hal htl hS hG
  refine eN func204 rfl ntmps204 fun hO=>?_
  refine ε2 ht hmF ?_
  refine fP ?_
  exact hb
 have d1:(a==[])=false:=by simpa using h1
 by_cases h2:a.length≤3
 case neg =>
  have hb:=bad (by unfold mR;rw [if_pos (.inr (.inl ω))])
  have d2:decide ((a.length:Int)≤3)=false:=κ
  clear bad h hq hs hmT hal htl h1 h2 hS hG
  refine eN func204 rfl ntmps204 fun hO=>?_
  refine ε2 ht hmF ?_
  refine fP ?_
  exact hb
 have d2:decide ((a.length:Int)≤3)=true:=κ
 have htn:=CZ a
 cases h3:a.all sY with
 | false =>
  have hb:=bad (by unfold mR;rw [if_pos (.inr (.inr (.inl h3)))])
  have d3:(jU a sX==[])=false:=by rw [beq_eq_false_iff_ne];intro e;rw [htn.1 e] at h3;cases h3
  generalize jU a sX=u at htr d3
  clear bad h hq hs hmT hal htl h1 h2 h3 htn hS hG
  refine eN func204 rfl ntmps204 fun hO=>?_
  refine ε3 ht htr hmF ?_
  refine fP ?_
  exact hb
 | true =>
  have d3:(jU a sX==[])=true:=by rw [beq_iff_eq];exact htn.2 h3
  have hat:=fun S'=>atoi w0 S' a (kn a:Nat) ω (MZ h1 h3)
  have hco:=fun S'=>BM w0 hS hG S' t ω
  have hno:mR a=if 255<kn a then none else some (kn a):=by
   unfold mR
   by_cases hv:255<kn a
   ·rw [if_pos (.inr (.inr (.inr hv))),if_pos hv]
   ·rw [if_neg (by rintro(e|e|e|e);exact h1 e;omega;rw [h3] at e;cases e;exact hv e),if_neg hv]
  generalize jU a sX=u at htr d3
  by_cases hv:255<kn a
  ·rw [if_pos hv] at hno
   have hb:=bad (by rw [hno])
   have d4:decide ((kn a:Int)≤255)=false:=κ
   generalize (kn a:Int)=v at hat d4
   clear bad h hq hs hal htl h1 h2 h3 htn hS hG hno hv
   cases hc:iW t with
   | none =>
    rw [hc] at hco
    unfold MS at hco
    simp only at hco
    clear hc
    refine eN func204 rfl ntmps204 fun hO=>?_
    repeat' first|refine st ?_|(refine ca ?_;first|apply ht|apply htr|apply hat|apply hco|apply hmT|apply hmF)|(refine br ?_ ?_<;>intro hb)|fail
    refine fP ?_
    exact hb
   | some c =>
    rw [hc] at hco
    unfold MS at hco
    simp only at hco
    clear hc
    refine eN func204 rfl ntmps204 fun hO=>?_
    repeat' first|refine st ?_|(refine ca ?_;first|apply ht|apply htr|apply hat|apply hco|apply hmT|apply hmF)|(refine br ?_ ?_<;>intro hb)|fail
    refine fP ?_
    exact hb
  ·rw [if_neg hv] at hno
   have d4:decide ((kn a:Int)≤255)=true:=κ
   rw [hno] at h bad
   generalize kn a=v at hat d4 h bad
   clear hq hs hal htl h1 h2 h3 htn hS hG hno hv
   cases hc:iW t with
   | none =>
    rw [hc] at hco
    have hb:=bad (by rw [hc])
    unfold MS at hco
    simp only at hco
    clear hc bad h
    refine eN func204 rfl ntmps204 fun hO=>?_
    repeat' first|refine st ?_|(refine ca ?_;first|apply ht|apply htr|apply hat|apply hco|apply hmT|apply hmF)|(refine br ?_ ?_<;>intro hb)|fail
    refine fP ?_
    exact hb
   | some c =>
    rw [hc] at hco h
    unfold MS at hco
    simp only at hco
    have h:R (.ret (.agg [.int .i64 45,.int .i64 (v:Int),.int .i64 0,.int .i64 2,.int .i64 (c:Int),.str []])) S:=h
    clear hc bad
    refine eN func204 rfl ntmps204 fun hO=>?_
    repeat' first|refine st ?_|(refine ca ?_;first|apply ht|apply htr|apply hat|apply hco|apply hmT)|(refine br ?_ ?_<;>intro hb)|fail
    refine fR results204 ?_
    exact h
theorem KB(s:List UInt8)(hs:s.length≤8192)(R:Rt)(h:R (iE (L0 s)) S):ao prog w0 208 [.str s] S R:=by
 have ht:=fun S'=>Kv w0 S' s ω
 have hmT:=lM w0
 have hmF:=lN w0
 unfold L0 at h
 cases hq:iy s with
 | none =>
  rw [hq] at h ht
  unfold iE at h
  unfold vb at ht
  unfold bE at h ht
  clear hq hs hmT hmF
  refine eN func208 rfl ntmps208 fun hO=>?_
  refine ε1 ht ?_
  refine fP ?_
  exact h
 | some q =>
 obtain⟨a,t⟩:=q
 obtain⟨hal,htl⟩:=pC hq
 rw [hq] at h ht
 unfold vb at ht
 simp only at h ht
 have hde:=fun S'=>He w0 S' t ω
 unfold Lh at hde
 unfold bE at hmF
 by_cases h1:a=[99]
 ·subst h1
  rw [if_pos rfl] at h
  cases hd:qv t with
  | none =>
   rw [hd] at h hde
   unfold iE bE at h
   simp only at h hde
   clear hd hq hs hal htl hmT
   refine eN func208 rfl ntmps208 fun hO=>?_
   refine ε3 ht hde hmF ?_
   refine fP ?_
   exact h
  | some c =>
   rw [hd] at h hde
   simp only at h hde
   by_cases hc:c.length≤378
   ·rw [if_pos hc] at h
    have d1:decide ((c.length:Int)≤378)=true:=κ
    have h:R (.ret (.agg [.int .i64 46,.int .i64 0,.int .i64 0,.int .i64 0,.int .i64 0,.str c])) S:=h
    clear hd hq hs hal htl hmF hc
    exact γR3 ht hde hmT func208 ntmps208 results208 h
   ·rw [if_neg hc] at h
    have d1:decide ((c.length:Int)≤378)=false:=κ
    unfold iE bE at h
    simp only at h
    clear hd hq hs hal htl hmT hc
    refine eN func208 rfl ntmps208 fun hO=>?_
    refine ε3 ht hde hmF ?_
    refine fP ?_
    exact h
 ·rw [if_neg h1] at h
  have d1:(a==[99])=false:=by simpa using h1
  unfold iE bE at h
  simp only at h
  cases hd:qv t with
  | none =>
   rw [hd] at hde
   simp only at hde
   clear hd hq hs hal htl hmT h1
   refine eN func208 rfl ntmps208 fun hO=>?_
   refine ε3 ht hde hmF ?_
   refine fP ?_
   exact h
  | some c =>
   rw [hd] at hde
   simp only at hde
   clear hd hq hs hal htl hmT h1
   refine eN func208 rfl ntmps208 fun hO=>?_
   refine ε3 ht hde hmF ?_
   refine fP ?_
   exact h
theorem G5(a:Ac)(hs:a.text.length≤10000000)(hk:a.kind=46)(R:Rt)(h:R (if a=⟨46,0,0,0,0,a.text⟩∧a.text.length≤378 then .ret (.str (53::50::59::99::59::iw a.text)) else .panic bE) S):ao prog w0 116 [a.av] S R:=by
 have hpT:=fun S'=>vP w0 S' a ⟨a.kind,0,0,0,0,a.text⟩
 have hpF:=fun S'=>vQ w0 S' a ⟨a.kind,0,0,0,0,a.text⟩
 have hmT:=lM w0
 have hmF:=lN w0
 obtain⟨k,n,m,ck,cn,t⟩:=a
 simp only at hk hs hpT hpF h
 subst hk
 unfold Ac.av at hpT hpF ⊢
 simp only at hpT hpF ⊢
 unfold bE at hmF
 by_cases he:(⟨46,n,m,ck,cn,t⟩:Ac)=⟨46,0,0,0,0,t⟩
 ·have hp:=fun S'=>hpT S' he
  by_cases hl:t.length≤378
  ·rw [if_pos ⟨he,hl⟩] at h
   have d1:decide ((t.length:Int)≤378)=true:=κ
   have hen:=fun S'=>Ha w0 S' t ω
   have hfl:(iw t).length≤1000:=by
    have h1:=x7 t
    unfold iw gW
    rw [ah,List.length_replicate]
    omega
   have hl5:5+(iw t).length≤9223372036854775807:=ω
   generalize iw t=E at *
   clear hpT hpF he hl hs hmF hfl
   exact γR3 hp hen hmT func116 ntmps116 results116 h
  ·rw [if_neg (fun e=>hl e.2)] at h
   have d1:decide ((t.length:Int)≤378)=false:=κ
   unfold bE at h
   clear hpT hpF he hl hs hmT
   refine eN func116 rfl ntmps116 fun hO=>?_
   refine ε2 hp hmF ?_
   refine fP ?_
   exact h
 ·have hp:=fun S'=>hpF S' he
  rw [if_neg (fun e=>he e.1)] at h
  unfold bE at h hp
  clear hpT hpF he hs hmT hmF
  refine eN func116 rfl ntmps116 fun hO=>?_
  refine ε1 hp ?_
  refine fP ?_
  exact h
theorem G6(w0:World)(hT:LC w0)(hD:A6 w0)(hN:Fq w0)(S:List aH)(a:Ac)(hk:a.kind=45)(R:Rt)
  (h:R (if a=⟨45,a.n,0,2,a.cn,[]⟩∧(0≤a.n∧a.n≤255)∧(0≤a.cn∧a.cn≤16777215) then .ret (.str (52::59::(gD a.n++59::kH a.cn.toNat))) else .panic bE) S):ao prog w0 114 [a.av] S R:=by
 have hpT:=fun S'=>vP w0 S' a ⟨a.kind,a.n,0,a.ck,a.cn,[]⟩
 have hpF:=fun S'=>vQ w0 S' a ⟨a.kind,a.n,0,a.ck,a.cn,[]⟩
 have hmT:=lM w0
 have hmF:=lN w0
 obtain⟨k,n,m,ck,cn,t⟩:=a
 simp only at hk hpT hpF h
 subst hk
 unfold Ac.av at hpT hpF ⊢
 simp only at hpT hpF ⊢
 unfold bE at hmF
 by_cases he:(⟨45,n,m,ck,cn,t⟩:Ac)=⟨45,n,0,ck,cn,[]⟩
 case neg =>
  have hp:=fun S'=>hpF S' he
  rw [if_neg (fun e=>he (by have h2:=e.1;simp only [Ac.mk.injEq] at h2 ⊢;exact⟨trivial,trivial,h2.2.2.1,trivial,trivial,h2.2.2.2.2.2⟩))] at h
  unfold bE at h hp
  clear hpT hpF he hmT hmF hT hD hN
  refine eN func114 rfl ntmps114 fun hO=>?_
  repeat' first|refine st ?_|(refine ca ?_;apply hp)|(refine br ?_ ?_<;>intro hb)|fail
  refine fP ?_
  exact h
 case pos =>
 have hp:=fun S'=>hpT S' he
 have hm0:m=0∧t=[]:=by simp only [Ac.mk.injEq] at he;exact⟨he.2.2.1,he.2.2.2.2.2⟩
 obtain⟨rfl,rfl⟩:=hm0
 clear hpT hpF he
 by_cases hc:ck=2∧jE 2 cn=true
 ·obtain⟨rfl,hcb⟩:=hc
  have hb:0≤cn∧cn≤16777215:=by simpa [jE,xH] using hcb
  obtain⟨v,rfl⟩:∃ v:Nat,cn=v:=⟨cn.toNat,ω⟩
  have htx:=fun S'=>Jc w0 hD S' 2 v v ω hcb (fun S' R h=>Mu w0 S' v hcb R h)
  by_cases hn:0≤n∧n≤255
  ·rw [if_pos ⟨rfl,hn,hb⟩] at h
   obtain⟨u,rfl⟩:∃ u:Nat,n=u:=⟨n.toNat,ω⟩
   have hit:=fun S'=>itoa w0 hT S' (u:Int) ω ω
   have hil:=(sJ u ω).2.1
   have d1:decide ((0:Int)≤(u:Int))=true:=χ
   have d2:decide ((u:Int)≤255)=true:=κ
   have hrl:(kH v).length=12:=rfl
   rw [Int.toNat_natCast] at h
   generalize gD (u:Int)=I at *
   generalize kH v=T at *
   have q1:2+I.length≤9223372036854775807:=ω
   have q2:I.length+1+1+1≤9223372036854775807:=ω
   have q3:I.length+3≤9223372036854775807:=ω
   have q4:I.length+1+1+1+T.length≤9223372036854775807:=ω
   have q5:I.length+3+T.length≤9223372036854775807:=ω
   clear hcb hb hn hil hrl hmF hT hD hN
   refine eN func114 rfl ntmps114 fun hO=>?_
   repeat' first|apply fX|apply eA|apply dC|apply eB|apply fY|apply b8|apply gh|apply b_|apply bN|apply cM|apply b9|apply bM|apply bv|apply gg|(apply bw;(· rfl))|(apply cK;simp only [bj])|(apply dx;(· rfl);(· simp only [go_sem, *,ah,aP];try rfl);(· rfl);simp only [putA])|(apply eE;simp only [putA])|apply cN|(apply df [];(· simp only [go_sem, *,ah,aP];try rfl);(· rfl);(· simp only [go_sem, *,ah,aP];try rfl);(· rfl);(iterate 2 (· simp only [go_sem, *,ah,aP];try rfl));(first|apply hp|apply htx|apply hit|apply hmT);simp only [aU,putA])|(apply dy;(· simp only [go_sem, *,ah,aP];try rfl);(· rfl);(· simp only [go_sem, *,ah,aP];try rfl))|(apply dM;(iterate 2 (· simp only [go_sem, *,ah,aP];try rfl));(· rfl);simp only [putA])|(apply bL;(· simp only [go_sem, *,ah,aP];try rfl);(· rfl);simp only [putA])|(apply dz;(· simp only [go_sem, *,ah,aP];try rfl))|(apply dB;(· simp only [go_sem, *,ah,aP];try rfl))|(apply cL;(· rfl);(fail_if_success (focus (show _=some true;(· simp only [go_sem, *,ah,aP];try rfl))));(· simp only [go_sem, *,ah,aP];try rfl);all_goals (intro hb;try simp only [ay,aE] at hb))|(apply dA;(· simp only [go_sem, *,ah,aP];try rfl);all_goals (intro hb;try simp only [ay,aE] at hb))|fail
   refine fR results114 ?_
   exact h
  ·rw [if_neg (fun e=>hn e.2.1)] at h
   unfold bE at h
   by_cases hn0:0≤n
   ·have d1:decide ((0:Int)≤n)=true:=by simpa using hn0
    have d2:decide (n≤255)=false:=κ
    clear hcb hb hn hn0 hmT hT hD hN
    refine eN func114 rfl ntmps114 fun hO=>?_
    repeat' first|refine st ?_|(refine ca ?_;first|apply hp|apply htx|apply hmF|apply hmT)|(refine br ?_ ?_<;>intro hb)|fail
    refine fP ?_
    exact h
   ·have d1:decide ((0:Int)≤n)=false:=by simpa using hn0
    clear hcb hb hn hn0 hmT hT hD hN
    refine eN func114 rfl ntmps114 fun hO=>?_
    repeat' first|refine st ?_|(refine ca ?_;first|apply hp|apply htx|apply hmF|apply hmT)|(refine br ?_ ?_<;>intro hb)|fail
    refine fP ?_
    exact h
 ·have htx:=fun S' R (h:∀ x e,(((e:Int)==0)&&((ck:Int)==2))=false→R (.ret (.tup [.str x,.int .i64 e])) S')=>Kw w0 hD hN S' ck cn R (fun e1 e2=>absurd ⟨e1,e2⟩ hc) (fun x e _ e2=>h x e e2)
  rw [if_neg (fun e=>hc (by
   have h2:=e.1
   simp only [Ac.mk.injEq] at h2
   refine⟨h2.2.2.2.1, ?_⟩
   have:=e.2.2
   simp [jE,xH]
   exact this))] at h
  unfold bE at h
  clear hc hT hD hN
  refine eN func114 rfl ntmps114 fun hO=>?_
  repeat' first|refine st ?_|(refine ca ?_;first|apply hp|apply htx)|(refine br ?_ ?_<;>intro hb)|fail
  intro x e hxe
  cases h1:((e:Int)==0) with
  | false =>
   clear hxe
   repeat' first|refine st ?_|(refine ca ?_;apply hmF)|(refine br ?_ ?_<;>intro hb)|fail
   refine fP ?_
   exact h
  | true =>
   have h2:((ck:Int)==2)=false:=by rw [h1] at hxe;simpa using hxe
   clear hxe
   repeat' first|refine st ?_|(refine ca ?_;apply hmF)|(refine br ?_ ?_<;>intro hb)|fail
   refine fP ?_
   exact h
def mP:Option (List UInt8)→gL
 | some s=>.ret (.str s)
 | none=>.panic bE
def NI:List (AV × AV):=[(.int .i64 44,.fn (.func 111) [] []),(.int .i64 45,.fn (.func 114) [] []),(.int .i64 46,.fn (.func 116) [] [])]
def NA:List (AV × AV):=[(.str [48],.fn (.func 203) [] []),(.str [50],.fn (.func 203) [] []),(.str [52],.fn (.func 204) [] []),(.str [53,50],.fn (.func 208) [] [])]
theorem G2(R:Rt)(h:R (.ret (.mval NI)) S):ao prog w0 51 [] S R:=by
 unfold NI at h
 exact γR0 func51 ntmps51 results51 h
theorem KA(R:Rt)(h:R (.ret (.mval NA)) S):ao prog w0 136 [] S R:=by
 unfold NA at h
 exact γR0 func136 ntmps136 results136 h
theorem NM{a:Ac}(h:a.kind=44):cU a=if a=⟨44,0,0,0,0,a.text⟩∧gG a.text=true then some (50::59::a.text) else none:=by
 unfold cU
 split
 ·rfl
 ·rw [if_neg (fun e=>by rw [e.1] at h;cases h),if_neg (fun e=>by rw [e.1] at h;cases h)]
theorem NL{a:Ac}(h:a.kind=45):cU a=if a=⟨45,a.n,0,2,a.cn,[]⟩∧(0≤a.n∧a.n≤255)∧(0≤a.cn∧a.cn≤16777215) then some (52::59::(gD a.n++59::kH a.cn.toNat)) else none:=by
 unfold cU
 rw [if_neg (fun e=>by rw [e.1] at h;cases h)]
 split
 ·rfl
 ·rw [if_neg (fun e=>by rw [e.1] at h;cases h)]
theorem NK{a:Ac}(h:a.kind=46):cU a=if a=⟨46,0,0,0,0,a.text⟩∧a.text.length≤378 then some (53::50::59::99::59::iw a.text) else none:=by
 unfold cU
 rw [if_neg (fun e=>by rw [e.1] at h;cases h),if_neg (fun e=>by rw [e.1] at h;cases h)]
theorem NH{a:Ac}(h1:a.kind≠44)(h2:a.kind≠45)(h3:a.kind≠46):cU a=none:=by
 unfold cU
 rw [if_neg (fun e=>h1 (by rw [e.1])),if_neg (fun e=>h2 (by rw [e.1])),if_neg (fun e=>h3 (by rw [e.1]))]
theorem G4(w0:World)(hT:LC w0)(hD:A6 w0)(hN:Fq w0)(S:List aH)(a:Ac)(i:Nat)(ha:S[i]? = some (.cells [.int .i64 a.kind,.int .i64 a.n,.int .i64 a.m,.int .i64 a.ck,.int .i64 a.cn,.str a.text]))(hs:a.text.length≤10000000)(R:Rt)(h:R (mP (cU a)) S):ao prog w0 50 [.own i 0] S R:=by
 have hm:=G2 w0
 unfold NI at hm
 have hmT:=lM w0
 have hmF:=lN w0
 unfold bE at hmF
 by_cases h4:a.kind=44
 ·have hp:=fun S'=>G7 w0 S' a hs h4
  rw [NM h4] at h
  by_cases hc:a=⟨44,0,0,0,0,a.text⟩∧gG a.text=true
  ·rw [if_pos hc] at h
   simp only [if_pos hc] at hp
   clear hc hs hT hD hN
   obtain⟨k,n,m,ck,cn,t⟩:=a
   simp only at h4 ha h hp
   subst h4
   unfold Ac.av at hp
   unfold mP at h
   simp only at hp h
   refine eN func50 rfl ntmps50 fun hO=>?_
   refine Δ3 hm hmT hp ?_
   all_goals refine fR results50 ?_
   all_goals exact h
  ·rw [if_neg hc] at h
   simp only [if_neg hc] at hp
   clear hc hs hT hD hN
   obtain⟨k,n,m,ck,cn,t⟩:=a
   simp only at h4 ha h hp
   subst h4
   unfold Ac.av bE at hp
   unfold mP bE at h
   simp only at hp h
   refine eN func50 rfl ntmps50 fun hO=>?_
   refine Δ3 hm hmT hp ?_
   all_goals refine fP ?_
   all_goals exact h
 by_cases h5:a.kind=45
 ·have hp:=fun S'=>G6 w0 hT hD hN S' a h5
  rw [NL h5] at h
  by_cases hc:a=⟨45,a.n,0,2,a.cn,[]⟩∧(0≤a.n∧a.n≤255)∧(0≤a.cn∧a.cn≤16777215)
  ·rw [if_pos hc] at h
   simp only [if_pos hc] at hp
   clear hc hs hT hD hN h4
   obtain⟨k,n,m,ck,cn,t⟩:=a
   simp only at h5 ha h hp
   subst h5
   unfold Ac.av at hp
   unfold mP at h
   simp only at hp h
   generalize (52::59::(gD n++59::kH cn.toNat))=T at hp h
   refine eN func50 rfl ntmps50 fun hO=>?_
   refine Δ3 hm hmT hp ?_
   all_goals refine fR results50 ?_
   all_goals exact h
  ·rw [if_neg hc] at h
   simp only [if_neg hc] at hp
   clear hc hs hT hD hN h4
   obtain⟨k,n,m,ck,cn,t⟩:=a
   simp only at h5 ha h hp
   subst h5
   unfold Ac.av bE at hp
   unfold mP bE at h
   simp only at hp h
   refine eN func50 rfl ntmps50 fun hO=>?_
   refine Δ3 hm hmT hp ?_
   all_goals refine fP ?_
   all_goals exact h
 by_cases h6:a.kind=46
 ·have hp:=fun S'=>G5 w0 S' a hs h6
  rw [NK h6] at h
  by_cases hc:a=⟨46,0,0,0,0,a.text⟩∧a.text.length≤378
  ·rw [if_pos hc] at h
   simp only [if_pos hc] at hp
   clear hc hs hT hD hN h4 h5
   obtain⟨k,n,m,ck,cn,t⟩:=a
   simp only at h6 ha h hp
   subst h6
   unfold Ac.av at hp
   unfold mP at h
   simp only at hp h
   generalize (53::50::59::99::59::iw t)=T at hp h
   refine eN func50 rfl ntmps50 fun hO=>?_
   refine Δ3 hm hmT hp ?_
   all_goals refine fR results50 ?_
   all_goals exact h
  ·rw [if_neg hc] at h
   simp only [if_neg hc] at hp
   clear hc hs hT hD hN h4 h5
   obtain⟨k,n,m,ck,cn,t⟩:=a
   simp only at h6 ha h hp
   subst h6
   unfold Ac.av bE at hp
   unfold mP bE at h
   simp only at hp h
   refine eN func50 rfl ntmps50 fun hO=>?_
   refine Δ3 hm hmT hp ?_
   all_goals refine fP ?_
   all_goals exact h
 ·rw [NH h4 h5 h6] at h
  unfold mP bE at h
  simp only at h
  have b4:(a.kind==44)=false:=by simpa using h4
  have b5:(a.kind==45)=false:=by simpa using h5
  have b6:(a.kind==46)=false:=by simpa using h6
  clear hs hT hD hN h4 h5 h6
  obtain⟨k,n,m,ck,cn,t⟩:=a
  simp only at ha b4 b5 b6
  refine eN func50 rfl ntmps50 fun hO=>?_
  refine Δ2 hm hmF ?_
  all_goals refine fP ?_
  all_goals exact h
end Go.Proofs.YthdbijpefkapnaaGreatDoor
