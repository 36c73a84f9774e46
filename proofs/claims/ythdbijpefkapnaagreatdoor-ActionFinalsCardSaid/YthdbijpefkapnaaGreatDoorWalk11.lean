/- YthdbijpefkapnaaGreatDoorWalk11: a part of the proof. -/
import Derived.Test.YthdbijpefkapnaaGreatDoorWalk8
import Derived.Test.YthdbijpefkapnaaGreatDoorWalk6
import Derived.Shelf.Strconv.ToErrorRange
import Derived.Shelf.Strconv.Atoi
import Derived.Lib.AtoiErrMem
import Derived.Test.YthdbijpefkapnaaGreatDoorShelf
set_option linter.all false
set_option maxHeartbeats 40000000
open And renaming intro → a6
open Array renaming ext_getElem? → lF, getElem?_eq_getElem → bj, getElem?_eq_none → c_
open BitVec renaming ofInt → ar
open Bool renaming and_eq_false_iff → gp, and_eq_true → ao, false_and → bK, false_eq_true → cg, not_eq_false' → aE, not_eq_true' → aw, true_and → bL
open Go.IntKind renaming bits → bh, i64 → ae, u64 → aR, u8 → aX
open Go.IntWalk renaming i64_in → ah, u64_in → im, u8_in → di
open Go.Lib renaming hid → ab, itoa → gn, trimS → jy
open Go.RowKit renaming Below → lR
open Go.World renaming block_lt_of_cell? → jb
open List renaming all_cons → z7, all_reverse → qU, append_assoc → aN, cons_append → ft, getElem?_eq_getElem → al, getElem?_eq_none → ce, getElem?_map → aI, getElem?_toArray → gj, length → iz, length_append → ai, length_map → be, map_cons → ap, map_nil → aq, mem_cons → bz, mem_map → aM, mem_of_getElem? → ax, not_mem_nil → gK, take → pi, take_length → bt, toList_toArray → bg
open Nat renaming pow_le_pow_right → gw, pow_succ → lS, zero_le → bf
open Option renaming map_some → dd
open Option.some renaming injEq → bi
open UInt8 renaming ofNat → ay, ofNat_toNat → cj
namespace Go.Proofs.YthdbijpefkapnaaGreatDoor
open Go Go.Fen Go.Proofs.Tryz
attribute [local irreducible] aW WP aj dS jl cQ aV cV
set_option maxRecDepth 8000
variable (w0:World) (S:List aH)
def Cz:AV:=.ifc 299 (.int .i64 1)
theorem GC{s:List UInt8}{i:Nat}{b:UInt8}(h:s[i]? = some b):(s.map iR)[i]? = some (.int .u8 (b.toNat:Int)):=by rw [aI,h];rfl
theorem Me(R:Rt)(h2:R (.ret (.tup [.int .u64 0,qu])) S):aj prog w0 293 [.str [],.int .i64 16,.int .i64 8] S R:=by
 unfold qu at h2
 refine eN func293 rfl ntmps293 fun hO=>?_
 repeat' first|refine st ?_|(refine br ?_ ?_<;>intro hb)|fail
 refine fR results293 ?_
 exact h2
theorem PY(s:List UInt8)(hne:s≠[])(hs:s.length≤100000)(R:Rt)(h1:∀ v:Nat,R (.ret (.tup [.int .u64 v,.inil])) S)(h2:R (.ret (.tup [.int .u64 0,qu])) S)(h3:R (.ret (.tup [.int .u64 255,Cz])) S) :
  aj prog w0 293 [.str s,.int .i64 16,.int .i64 8] S R:=by
 have hn0:(s==[])=false:=by simpa using hne
 have Hs:=ab hs
 clear hne hs
 unfold qu at h2
 unfold Cz at h3
 have H1:=ab h1
 have H2:=ab h2
 have H3:=ab h3
 clear h1 h2 h3
 refine eN func293 rfl ntmps293 fun hO=>?_
 repeat' first|refine st ?_|(refine br ?_ ?_<;>intro hb)|fail
 apply n9
 ·(simp only [go_sem, *];try rfl)
 ·rfl
 ·(simp only [go_sem, *];try rfl)
 ·(simp only [go_sem, *];try rfl)
 ·(simp only [go_sem, *];try rfl)
 ·(simp only [go_sem, *];try rfl)
 ·rfl
 simp only [putA]
 repeat' first|refine st ?_|(refine br ?_ ?_<;>intro hb)|fail
 have hffw:aR.wrap (aR.wrap (1 * 2 ^ min (aR.wrap 8).toNat 64) - 1)=255:=by decide +kernel
 have hlm:(s.map iR).length=s.length:=be _
 refine cW (fun (p:Nat × Nat) env S'=>p.1≤s.length∧p.2≤255∧env 1000000=.dfr []∧env 1=.int .i64 16∧env 8=.bool false∧env 9=.str s∧env 10=.int .u64 1152921504606846976∧env 11=.int .u64 255∧env 12=.bool false∧env 13=.int .u64 p.2 ∧
  env 99=.sval false (s.map iR)∧env 100=.int .i64 s.length∧env 101=.int .i64 p.1∧S'=S) (fun p=>s.length - p.1) (0,0) ?_ ?_
 ·exact⟨bf _,by omega,ss,ss,ss,ss,ss,ss,ss,ss,ss,ss,ss,rfl⟩
 ·rintro⟨i,acc⟩ env S' ⟨hi,hacc,e0,f1,f8,f9,f10,f11,f12,f13,f99,f100,f101,rfl⟩ IH
  have HI:=ab IH
  have hw16:aX.wrap 16=16:=by decide
  have hw16':aR.wrap 16=16:=by decide
  have hlw:=Dj w0
  clear IH hffw hlm
  simp only at f13 f101 hi hacc
  have hs:=Hs.out
  by_cases hlt:i<s.length
  ·obtain⟨b,hx⟩:∃ b,s[i]? = some b:=⟨_,al hlt⟩
   have hb:=GC hx
   clear hx
   have h1:decide ((i:Int)<(s.length:Int))=true:=by simpa using hlt
   have hwi:ae.wrap ((i:Int)+1)=((i+1:Nat):Int):=by rw [ah _ (by omega)];rfl
   have Hlt:=ab hlt
   have d5:decide ((1152921504606846976:Int)≤(acc:Int))=false:=by simp;omega
   have w5:aR.wrap ((acc:Int) * 16)=((acc * 16:Nat):Int):=by rw [im _ (by omega)];omega
   have key:∀ d:Nat,d<16→aR.wrap (d:Int)=(d:Int)∧aR.wrap (((acc * 16:Nat):Int)+(d:Int))=((acc * 16+d:Nat):Int)∧decide (((acc * 16+d:Nat):Int)<((acc * 16:Nat):Int))=false:=by
    intro d hd
    refine⟨im _ (by omega),by rw [im _ (by omega)];omega,by simp;omega⟩
   clear hlt hacc hi hs
   have Key:=ab key
   clear key
   generalize s.map iR=B at *
   by_cases c1:48≤b.toNat∧b.toNat≤57
   ·have d1:decide ((48:Int)≤(b.toNat:Int))=true:=by simp;omega
    have d2:decide ((b.toNat:Int)≤57)=true:=by simp;omega
    have d3:((b.toNat:Int)==95)=false:=by simp;omega
    have w1:aX.wrap ((b.toNat:Int) - 48)=((b.toNat - 48:Nat):Int):=by rw [di _ (by omega)];omega
    have hd16:b.toNat - 48<16:=by omega
    have d4:decide ((16:Int)≤((b.toNat - 48:Nat):Int))=false:=by simp;omega
    clear c1
    generalize hdd:b.toNat - 48=d at *
    obtain⟨k1,k2,k3⟩:=Key.out d hd16
    clear hdd hd16
    by_cases hm:acc * 16+d≤255
    ·have k4:decide ((255:Int)<((acc * 16+d:Nat):Int))=false:=by simp;omega
     have Hm:=ab hm
     clear hm
     repeat' first|refine st ?_|(refine ca ?_;apply hlw)|(refine br ?_ ?_<;>intro hb)|fail
     refine HI.out (i+1,acc * 16+d) _ _ (by have:=Hlt.out;simp only;omega) ⟨Hlt.out,Hm.out, ?_, ?_, ?_, ?_, ?_, ?_, ?_, ?_, ?_, ?_, ?_,rfl⟩
     all_goals (simp only [go_sem, *];try rfl)
    ·have k4:decide ((255:Int)<((acc * 16+d:Nat):Int))=true:=by simp;omega
     have h3:=H3.out
     clear hm
     repeat' first|refine st ?_|(refine ca ?_;apply hlw)|(refine br ?_ ?_<;>intro hb)|fail
     refine fR results293 ?_
     exact h3
   ·have hnd:(decide ((48:Int)≤(b.toNat:Int))&&decide ((b.toNat:Int)≤57))=false:=by
     rw [gp];simp;omega
    by_cases c2:97≤gF b∧gF b≤122
    ·have e1:decide ((97:Int)≤(gF b:Int))=true:=by simp;omega
     have e2:decide ((gF b:Int)≤122)=true:=by simp;omega
     have w1:aX.wrap ((gF b:Int) - 97)=((gF b - 97:Nat):Int):=by rw [di _ (by omega)];omega
     have w2:aX.wrap (((gF b - 97:Nat):Int)+10)=((gF b - 87:Nat):Int):=by rw [di _ (by omega)];omega
     clear c1 c2
     generalize gF b - 87=d at *
     generalize gF b - 97=e at *
     by_cases hd16:d<16
     ·have d4:decide ((16:Int)≤(d:Int))=false:=by simp;omega
      obtain⟨k1,k2,k3⟩:=Key.out d hd16
      clear hd16
      cases q1:decide ((48:Int)≤(b.toNat:Int))<;>cases q2:decide ((b.toNat:Int)≤57)<;>cases q3:((b.toNat:Int)==95)<;>simp only [q1,q2] at hnd<;>try (exfalso;cases hnd;done)
      all_goals clear hnd
      all_goals
       by_cases hm:acc * 16+d≤255
       ·have k4:decide ((255:Int)<((acc * 16+d:Nat):Int))=false:=by simp;omega
        have Hm:=ab hm
        clear hm
        repeat' first|refine st ?_|(refine ca ?_;apply hlw)|(refine br ?_ ?_<;>intro hb)|fail
        refine HI.out (i+1,acc * 16+d) _ _ (by have:=Hlt.out;simp only;omega) ⟨Hlt.out,Hm.out, ?_, ?_, ?_, ?_, ?_, ?_, ?_, ?_, ?_, ?_, ?_,rfl⟩
        all_goals (simp only [go_sem, *];try rfl)
       ·have k4:decide ((255:Int)<((acc * 16+d:Nat):Int))=true:=by simp;omega
        have h3:=H3.out
        clear hm
        repeat' first|refine st ?_|(refine ca ?_;apply hlw)|(refine br ?_ ?_<;>intro hb)|fail
        refine fR results293 ?_
        exact h3
     ·have d4:decide ((16:Int)≤(d:Int))=true:=by simp;omega
      have h2:=H2.out
      clear hd16
      cases q1:decide ((48:Int)≤(b.toNat:Int))<;>cases q2:decide ((b.toNat:Int)≤57)<;>cases q3:((b.toNat:Int)==95)<;>simp only [q1,q2] at hnd<;>try (exfalso;cases hnd;done)
      all_goals clear hnd
      all_goals
       repeat' first|refine st ?_|(refine ca ?_;apply hlw)|(refine br ?_ ?_<;>intro hb)|fail
       refine fR results293 ?_
       exact h2
    ·have hle:(decide ((97:Int)≤(gF b:Int))&&decide ((gF b:Int)≤122))=false:=by
      rw [gp];simp;omega
     have h2:=H2.out
     clear c1 c2
     cases q1:decide ((48:Int)≤(b.toNat:Int))<;>cases q2:decide ((b.toNat:Int)≤57)<;>cases q3:((b.toNat:Int)==95)<;>simp only [q1,q2] at hnd<;>try (exfalso;cases hnd;done)
     all_goals clear hnd
     all_goals
      cases q4:decide ((97:Int)≤(gF b:Int))<;>cases q5:decide ((gF b:Int)≤122)<;>simp only [q4,q5] at hle<;>try (exfalso;cases hle;done)
     all_goals clear hle
     all_goals
      repeat' first|refine st ?_|(refine ca ?_;apply hlw)|(refine br ?_ ?_<;>intro hb)|fail
      refine fR results293 ?_
      exact h2
  ·have hil:i=s.length:=by omega
   subst hil
   have h1:decide ((s.length:Int)<(s.length:Int))=false:=by simp
   have hh:=H1.out acc
   clear hlt hi hacc hs
   repeat' first|refine st ?_|(refine br ?_ ?_<;>intro hb)|fail
   refine fR results293 ?_
   exact hh
def J9(w0:World):Prop:=∃ ev,w0.cell? ⟨7,0,none⟩=some ev∧(ev=.nilIface∨∃ te pe,ev=.iface te pe)
theorem Im(w0:World)(hS:J9 w0)(S:List aH)(s:List UInt8)(hs:s.length≤100000)(R:Rt)(h:∀ v:Value,R (.ret (.ifc 302 (.val v))) S) :
  aj prog w0 247 [.str [80,97,114,115,101,85,105,110,116],.str s,.int .i64 16,.int .i64 8,Cz] S R:=by
 refine aj.libR (vs:=[.string ⟨#[80,97,114,115,101,85,105,110,116]⟩,.string ⟨s.toArray⟩,.int .i64 16,.int .i64 8,.iface 299 (.int .i64 1)]) (Go.Proofs.enters_of func247 (by kernel_rfl) rfl) rfl ?_
 intro w hb
 obtain⟨ev,hv,hev⟩:=hS
 refine(Go.Proofs.Any.strconv_toError_range Go.Proofs.Tryz.laysC245 ⟨#[80,97,114,115,101,85,105,110,116]⟩ ⟨s.toArray⟩ 16 8 ev w ?_ ?_ hev).mono ?_
 ·show s.toArray.size≤_
  simp;omega
 ·exact(hb.cell (jb _ _ hv)).trans hv
 ·rintro e w' ⟨N,rfl,hN,hc,hbw⟩
  exact⟨_,rfl,hbw,.ifc 302 (.val (.pointer (some ⟨N,0,none⟩))),fun ι ψ=>.ifc _ _ _ (.val _ rfl),h _⟩
theorem Il(w0:World)(hS:D_ w0)(S:List aH)(s:List UInt8)(hs:s.length≤100000)(R:Rt)(h:∀ v:Value,R (.ret (.ifc 302 (.val v))) S) :
  aj prog w0 247 [.str [80,97,114,115,101,85,105,110,116],.str s,.int .i64 16,.int .i64 8,qu] S R:=by
 refine aj.libR (vs:=[.string ⟨#[80,97,114,115,101,85,105,110,116]⟩,.string ⟨s.toArray⟩,.int .i64 16,.int .i64 8,.iface 299 (.int .i64 2)]) (Go.Proofs.enters_of func247 (by kernel_rfl) rfl) rfl ?_
 intro w hb
 obtain⟨ev,hv,hev⟩:=hS
 refine(Go.Proofs.Any.strconv_toError_syntax Go.Proofs.Tryz.laysC245 ⟨#[80,97,114,115,101,85,105,110,116]⟩ ⟨s.toArray⟩ 16 8 ev w ?_ ?_ hev).mono ?_
 ·show s.toArray.size≤_
  simp;omega
 ·exact(hb.cell (jb _ _ hv)).trans hv
 ·rintro e w' ⟨N,rfl,hN,hc,hbw⟩
  exact⟨_,rfl,hbw,.ifc 302 (.val (.pointer (some ⟨N,0,none⟩))),fun ι ψ=>.ifc _ _ _ (.val _ rfl),h _⟩
theorem P0(w0:World)(hS:D_ w0)(S:List aH)(a b:UInt8)(v:Nat)(hv:iu a b=some v)(R:Rt)(h:R (.ret (.tup [.int .u64 v,.inil])) S):aj prog w0 250 [.str [a,b],.int .i64 16,.int .i64 8] S R :=
 tu w0 hS S a b R (fun v' hv'=>by rw [hv] at hv';cases hv';exact h) (fun e=>by rw [hv] at e;cases e)
theorem Mm(w0:World)(hS:D_ w0)(S:List aH)(a b:UInt8)(hv:iu a b=none)(R:Rt)(h:∀ t x,R (.ret (.tup [.int .u64 0,.ifc t x])) S):aj prog w0 250 [.str [a,b],.int .i64 16,.int .i64 8] S R :=
 tu w0 hS S a b R (fun v' hv'=>by rw [hv] at hv';cases hv') (fun _=>h)
theorem PZ(w0:World)(hS:D_ w0)(hG:J9 w0)(S:List aH)(s:List UInt8)(hs:s.length≤100000)(R:Rt)(h1:∀ v:Nat,R (.ret (.tup [.int .u64 v,.inil])) S)(h2:∀ (v:Nat) t x,R (.ret (.tup [.int .u64 v,.ifc t x])) S):aj prog w0 250 [.str s,.int .i64 16,.int .i64 8] S R:=by
 have heS:=fun S'=>Il w0 hS S' s hs
 have heR:=fun S'=>Im w0 hG S' s hs
 have hc0:((0:Nat):Int)=0:=rfl
 have h20:∀ t x,R (.ret (.tup [.int .u64 0,.ifc t x])) S:=h2 0
 have h21:∀ t x,R (.ret (.tup [.int .u64 255,.ifc t x])) S:=h2 255
 unfold qu at heS
 unfold Cz at heR
 by_cases hn:s=[]
 ·subst hn
  have hp:=Me w0
  unfold qu at hp
  clear hS hG h1 h2 h21 heR
  refine eN func250 rfl ntmps250 fun hO=>?_
  repeat' first|refine st ?_|(refine ca ?_;first|apply hp|apply heS)|(refine br ?_ ?_<;>intro hb)|fail
  intro v
  repeat' first|refine st ?_|(refine br ?_ ?_<;>intro hb)|fail
  refine fR results250 ?_
  exact h20 _ _
 ·have hp:=fun S'=>PY w0 S' s hn hs
  unfold qu Cz at hp
  clear hS hG h2 hs hn
  refine eN func250 rfl ntmps250 fun hO=>?_
  repeat' first|refine st ?_|(refine ca ?_;apply hp)|(refine br ?_ ?_<;>intro hb)|fail
  ·intro v
   repeat' first|refine st ?_|(refine br ?_ ?_<;>intro hb)|fail
   refine fR results250 ?_
   exact h1 _
  ·repeat' first|refine st ?_|(refine ca ?_;apply heS)|(refine br ?_ ?_<;>intro hb)|fail
   intro v
   repeat' first|refine st ?_|(refine br ?_ ?_<;>intro hb)|fail
   refine fR results250 ?_
   exact h20 _ _
  ·repeat' first|refine st ?_|(refine ca ?_;apply heR)|(refine br ?_ ?_<;>intro hb)|fail
   intro v
   repeat' first|refine st ?_|(refine br ?_ ?_<;>intro hb)|fail
   refine fR results250 ?_
   exact h21 _ _
theorem C9(s:List UInt8)(hs:s.length≤100000)(R:Rt)(h:∀ b,R (.ret (.sval b ((fw s).map AV.str))) S):aj prog w0 249 [.str s,.str [47]] S R:=by
 have hg:=fun S'=>JD w0 S' s hs
 have hlt:ltL S.length ((fw s).map AV.str)=true:=db.2 fun x hx=>by obtain⟨y,_,rfl⟩:=aM.1 hx;rfl
 have hpl:plainL ((fw s).map AV.str)=true:=by
  have:=ti (fw s) 0
  simpa [mg] using this
 generalize (fw s).map AV.str=F at h hg hlt hpl
 clear hs
 refine eN func249 rfl ntmps249 fun hO=>?_
 repeat' first|refine st ?_|(refine ca ?_;apply hg)|(refine br ?_ ?_<;>intro hb)|fail
 intro b
 cases b
 all_goals
  repeat' first|refine st ?_|(refine br ?_ ?_<;>intro hb)|fail
  refine fR results249 ?_
  exact h _
def sN(s:List UInt8):Bool:=decide (4≤s.length)&&(s.take 4==[114,103,98,58])
theorem JB(s:List UInt8)(R:Rt)(h:R (.ret (.bool (sN s))) S):aj prog w0 274 [.str s,.str [114,103,98,58]] S R:=by
 unfold sN at h
 by_cases hl:4≤s.length
 ·have d1:decide ((4:Int)≤(s.length:Int))=true:=by simp;omega
  have hk:((4:Nat):Int)≤(s.length:Int):=by omega
  have hk2:(4:Int)≤(s.length:Int):=by omega
  have hc4:((4:Nat):Int)=4:=rfl
  have d2:decide (((4:Nat):Int)≤(s.length:Int))=true:=by simp;omega
  rw [decide_eq_true hl,bL] at h
  clear hl
  refine eN func274 rfl ntmps274 fun hO=>?_
  repeat' first|refine st ?_|(refine br ?_ ?_<;>intro hb)|fail
  refine fR results274 ?_
  exact h
 ·have d1:decide ((4:Int)≤(s.length:Int))=false:=by simp;omega
  have d2:decide (((4:Nat):Int)≤(s.length:Int))=false:=by simp;omega
  rw [decide_eq_false hl,bK] at h
  clear hl
  refine eN func274 rfl ntmps274 fun hO=>?_
  repeat' first|refine st ?_|(refine br ?_ ?_<;>intro hb)|fail
  refine fR results274 ?_
  exact h
def xe(s:List UInt8):AV:=if sN s then .tup [.str (s.drop 4),.bool true] else .tup [.str s,.bool false]
theorem Ln(s:List UInt8)(R:Rt)(h:R (.ret (xe s)) S):aj prog w0 291 [.str s,.str [114,103,98,58]] S R:=by
 have hp:=fun S'=>JB w0 S' s
 unfold xe at h
 cases hb:sN s with
 | false =>
  rw [hb] at h hp
  have h:R (.ret (.tup [.str s,.bool false])) S:=h
  clear hb
  refine eN func291 rfl ntmps291 fun hO=>?_
  repeat' first|refine st ?_|(refine ca ?_;apply hp)|(refine br ?_ ?_<;>intro hb)|fail
  refine fR results291 ?_
  exact h
 | true =>
  have hl:4≤s.length:=by unfold sN at hb;simp at hb;exact hb.1
  have hk:((4:Nat):Int)≤(s.length:Int):=by omega
  have hts:pi s.length s=s:=bt
  rw [hb] at h hp
  have h:R (.ret (.tup [.str (s.drop 4),.bool true])) S:=h
  clear hb hl
  refine eN func291 rfl ntmps291 fun hO=>?_
  repeat' first|refine st ?_|(refine ca ?_;apply hp)|(refine br ?_ ?_<;>intro hb)|fail
  refine fR results291 ?_
  exact h
theorem My(s:List UInt8)(R:Rt)(h:R (.ret (xe s)) S):aj prog w0 248 [.str s,.str [114,103,98,58]] S R:=by
 have hp:=fun S'=>Ln w0 S' s
 unfold xe at h hp
 cases hb:sN s with
 | false =>
  rw [hb] at h hp
  have h:R (.ret (.tup [.str s,.bool false])) S:=h
  have hp:∀ S' (R:Rt),R (.ret (.tup [.str s,.bool false])) S'→aj prog w0 291 [.str s,.str [114,103,98,58]] S' R:=hp
  clear hb
  refine eN func248 rfl ntmps248 fun hO=>?_
  repeat' first|refine st ?_|(refine ca ?_;apply hp)|(refine br ?_ ?_<;>intro hb)|fail
  refine fR results248 ?_
  exact h
 | true =>
  rw [hb] at h hp
  have h:R (.ret (.tup [.str (s.drop 4),.bool true])) S:=h
  have hp:∀ S' (R:Rt),R (.ret (.tup [.str (s.drop 4),.bool true])) S'→aj prog w0 291 [.str s,.str [114,103,98,58]] S' R:=hp
  clear hb
  generalize s.drop 4=d at h hp
  refine eN func248 rfl ntmps248 fun hO=>?_
  repeat' first|refine st ?_|(refine ca ?_;apply hp)|(refine br ?_ ?_<;>intro hb)|fail
  refine fR results248 ?_
  exact h
def qM:List UInt8→Option Nat
 | [a,b]=>iu a b
 | _=>none
def nP:Nat→List (List UInt8)→Option Nat
 | n,[]=>some n
 | n,p::ps=>match qM p with|some k=>nP (n * 256+k) ps|none=>none
def tJ:List (List UInt8)→List UInt8
 | []=>[]
 | [w]=>w
 | w::ws=>w++47::tJ ws
theorem rf:∀ s,tJ (fw s)=s
 | []=>rfl
 | b::r=>by
  have ih:=rf r
  unfold fw
  split
  ·next h =>
   subst h
   cases hs:fw r with
   | nil=>exact absurd hs (Cc r)
   | cons w ws=>rw [hs] at ih;simp [tJ,ih]
  ·split
   ·next e=>exact absurd e (Cc r)
   ·next w ws e =>
    rw [e] at ih
    cases ws with
    | nil=>simp only [tJ] at ih ⊢;rw [ih]
    | cons w2 ws=>simp only [tJ,ft] at ih ⊢;rw [ih]
theorem zG{b:UInt8}{x:Nat}(h:dW b=some x):b≠47∧b≠43∧b≠95:=by
 have:∀ n:Nat,n<256→(dW (ay n)).isSome=true→ay n≠47∧ay n≠43∧ay n≠95:=by decide +kernel
 have h2:=this b.toNat b.toNat_lt
 rw [cj] at h2
 exact h2 (by rw [h];rfl)
theorem ln{a b:UInt8}{x:Nat}(h:iu a b=some x):(a≠47∧a≠43∧a≠95)∧(b≠47∧b≠43∧b≠95):=by
 unfold iu at h
 cases h1:dW a with
 | none=>rw [h1] at h;simp at h
 | some u =>
  cases h2:dW b with
  | none=>rw [h1,h2] at h;simp at h
  | some v=>exact⟨zG h1,zG h2⟩
theorem Ap{a b c d e f:UInt8}(ha:a≠47)(hb:b≠47)(hc:c≠47)(hd:d≠47)(he:e≠47)(hf:f≠47):fw [a,b,47,c,d,47,e,f]=[[a,b],[c,d],[e,f]]:=by
 simp [fw,ha,hb,hc,hd,he,hf]
theorem sk{s:List UInt8}{n:Nat}(h:iv s=some n):sN s=true∧∃ p q r,fw (s.drop 4)=[p,q,r]∧nP 0 [p,q,r]=some n:=by
 unfold iv at h
 split at h
 ·next p0 p1 p2 p3 a b q c d r e f =>
  split at h
  ·next hp =>
   obtain⟨rfl,rfl,rfl,rfl,rfl,rfl⟩:=hp
   split at h
   ·next x y z hx hy hz =>
    cases h
    refine⟨rfl,[a,b],[c,d],[e,f], ?_, ?_⟩
    ·exact Ap (ln hx).1.1 (ln hx).2.1 (ln hy).1.1 (ln hy).2.1 (ln hz).1.1 (ln hz).2.1
    ·simp only [nP,qM,hx,hy,hz]
     congr 1
     omega
   ·cases h
  ·cases h
 ·cases h
theorem oJ{p:List UInt8}{k:Nat}(h:qM p=some k):∃ a b,p=[a,b]∧iu a b=some k:=by
 unfold qM at h
 split at h
 ·exact⟨_,_,rfl,h⟩
 ·cases h
theorem Bo{p q r:List UInt8}{n:Nat}(h:nP 0 [p,q,r]=some n):∃ a b c d e f x y z,p=[a,b]∧q=[c,d]∧r=[e,f]∧iu a b=some x∧iu c d=some y∧iu e f=some z∧n=x * 65536+y * 256+z:=by
 simp only [nP] at h
 cases h1:qM p with
 | none=>rw [h1] at h;cases h
 | some x =>
  cases h2:qM q with
  | none=>rw [h1,h2] at h;cases h
  | some y =>
   cases h3:qM r with
   | none=>rw [h1,h2,h3] at h;cases h
   | some z =>
    rw [h1,h2,h3] at h
    simp only [bi] at h
    obtain⟨a,b,rfl,e1⟩:=oJ h1
    obtain⟨c,d,rfl,e2⟩:=oJ h2
    obtain⟨e,f,rfl,e3⟩:=oJ h3
    exact⟨a,b,c,d,e,f,x,y,z,rfl,rfl,rfl,e1,e2,e3,by omega⟩
theorem JX{s p q r:List UInt8}{n:Nat}(hp:sN s=true)(hs:fw (s.drop 4)=[p,q,r])(h:nP 0 [p,q,r]=some n):iv s=some n:=by
 obtain⟨a,b,c,d,e,f,x,y,z,rfl,rfl,rfl,e1,e2,e3,rfl⟩:=Bo h
 have hj:=rf (s.drop 4)
 rw [hs] at hj
 unfold sN at hp
 simp at hp
 have hsp:s=[114,103,98,58,a,b,47,c,d,47,e,f]:=by
  rw [← List.take_append_drop 4 s,hp.2,← hj]
  rfl
 rw [hsp]
 unfold iv
 simp only
 rw [if_pos (by simp),e1,e2,e3]
theorem DN{s p q r:List UInt8}(hs:fw (s.drop 4)=[p,q,r])(h:nP 0 [p,q,r]=none):iv s=none:=by
 cases hc:iv s with
 | none=>rfl
 | some n =>
  obtain⟨_,p',q',r',h1,h2⟩:=sk hc
  rw [hs] at h1
  cases h1
  rw [h] at h2;cases h2
def Lo:Option Nat→AV
 | some n=>.tup [.agg [.int .i64 2,.int .i64 n],.int .i64 0]
 | none=>.tup [.agg [.int .i64 0,.int .i64 0],.int .i64 6]
theorem AL(w0:World)(hS:D_ w0)(hG:J9 w0)(S:List aH)(s:List UInt8)(hs:s.length≤10000)(R:Rt)(h:R (.ret (Lo (iv s))) S):aj prog w0 207 [.str s] S R:=by
 have hcut:=fun S'=>My w0 S' s
 unfold xe at hcut
 have bad:iv s=none→R (.ret (.tup [.agg [.int .i64 0,.int .i64 0],.int .i64 6])) S:=fun e=>by rw [e] at h;exact h
 have good:∀ n,iv s=some n→R (.ret (.tup [.agg [.int .i64 2,.int .i64 n],.int .i64 0])) S:=fun n e=>by rw [e] at h;exact h
 clear h
 cases hpx:sN s with
 | false =>
  have hb:=bad (by cases hc:iv s with|none=>rfl|some n=>have:=(sk hc).1;rw [hpx] at this;cases this)
  rw [hpx] at hcut
  have hcut:∀ S' (R:Rt),R (.ret (.tup [.str s,.bool false])) S'→aj prog w0 248 [.str s,.str [114,103,98,58]] S' R:=hcut
  have hsp:=fun S'=>C9 w0 S' s (by omega)
  generalize (fw s).map AV.str=F at hsp
  clear bad good hpx hs hS hG
  refine eN func207 rfl ntmps207 fun hO=>?_
  repeat' first|refine st ?_|(refine ca ?_;first|apply hcut|apply hsp)|(refine br ?_ ?_<;>intro hb)|fail
  intro b
  repeat' first|refine st ?_|(refine br ?_ ?_<;>intro hb)|fail
  refine fR results207 ?_
  exact hb
 | true =>
 rw [hpx] at hcut
 have hcut:∀ S' (R:Rt),R (.ret (.tup [.str (s.drop 4),.bool true])) S'→aj prog w0 248 [.str s,.str [114,103,98,58]] S' R:=hcut
 have hsp:=fun S'=>C9 w0 S' (s.drop 4) (by simp;omega)
 by_cases h3:(fw (s.drop 4)).length=3
 case neg =>
  have hb:=bad (by cases hc:iv s with|none=>rfl|some n=>obtain⟨_,p,q,r,e,_⟩:=sk hc;rw [e] at h3;exact absurd rfl h3)
  have d1:((((fw (s.drop 4)).map AV.str).length:Int) != 3)=true:=by rw [bne_iff_ne,be];omega
  generalize (fw (s.drop 4)).map AV.str=F at hsp d1
  generalize s.drop 4=u at hcut hsp
  clear bad good hpx hs h3 hS hG
  refine eN func207 rfl ntmps207 fun hO=>?_
  repeat' first|refine st ?_|(refine ca ?_;first|apply hcut|apply hsp)|(refine br ?_ ?_<;>intro hb)|fail
  intro b
  repeat' first|refine st ?_|(refine br ?_ ?_<;>intro hb)|fail
  refine fR results207 ?_
  exact hb
 case pos =>
  obtain⟨p,q,r,hL⟩:∃ p q r,fw (s.drop 4)=[p,q,r]:=by
   match hm:fw (s.drop 4),h3 with
   | [p,q,r],_=>exact⟨p,q,r,rfl⟩
  have good2:∀ n,nP 0 [p,q,r]=some n→R (.ret (.tup [.agg [.int .i64 2,.int .i64 n],.int .i64 0])) S:=fun n e=>good n (JX hpx hL e)
  have bad2:nP 0 [p,q,r]=none→R (.ret (.tup [.agg [.int .i64 0,.int .i64 0],.int .i64 6])) S:=fun e=>bad (DN hL e)
  have hjl:=rf (s.drop 4)
  rw [hL] at hsp hjl
  have hlen:∀ x∈[p,q,r],x.length≤100000:=by
   have hl:=congrArg iz hjl
   simp [tJ] at hl
   intro x hx
   simp only [bz,gK,or_false] at hx
   rcases hx with rfl|rfl|rfl<;>omega
  simp only [ap,aq] at hsp
  generalize s.drop 4=u at hcut hsp
  have Good:=ab good2
  have Bad:=ab bad2
  have Hlen:=ab hlen
  have HSS:=ab hS
  have HGG:=ab hG
  clear bad good good2 bad2 hpx hs h3 hL hjl hlen hS hG
  refine eN func207 rfl ntmps207 fun hO=>?_
  repeat' first|refine st ?_|(refine ca ?_;first|apply hcut|apply hsp)|(refine br ?_ ?_<;>intro hb)|fail
  intro b
  repeat' first|refine st ?_|(refine br ?_ ?_<;>intro hb)|fail
  have hc3:((3:Nat):Int)=3:=rfl
  refine cW (fun (p':Nat × Nat × List (List UInt8)) env S'=>p'.1≤3∧[p,q,r].drop p'.1=p'.2.2∧p'.2.1<256 ^ p'.1∧nP p'.2.1 p'.2.2=nP 0 [p,q,r]∧env 1000000=.dfr []∧env 2=.own S.length 0∧env 7=.int .i64 (p'.2.1:Int)∧env 27=.sval b [.str p,.str q,.str r]∧env 28=.int .i64 3∧env 29=.int .i64 (p'.1:Int) ∧
   S'=S++[aH.cells [.int .i64 0,.int .i64 0]]) (fun p'=>3 - p'.1) (0,0,[p,q,r]) ?_ ?_
  ·exact⟨by omega,rfl,by simp,rfl,ss,ss,ss,ss,ss,ss,rfl⟩
  ·rintro⟨k,n,rest⟩ env S' ⟨hk,hrest,hn,hacc,e0,f2,f7,f27,f28,f29,rfl⟩ IH
   simp only at hk hrest hn hacc f7 f29
   have HI:=ab IH
   clear IH hcut hsp hc3
   have hp3:256 ^ k≤256 ^ 3:=gw (by omega) hk
   have hp3':(256:Nat) ^ 3=16777216:=by decide
   by_cases hlt:k<3
   ·obtain⟨x,rr,rfl⟩:∃ x rr,rest=x::rr:=by
     cases rest with
     | nil=>have:=congrArg iz hrest;simp at this;omega
     | cons x rr=>exact⟨x,rr,rfl⟩
    have hx0:[p,q,r][k]? = some x:=by
     have:=congrArg List.head? hrest
     simpa [List.head?_drop] using this
    have hxl:=Hlen.out x (ax hx0)
    have hx:([AV.str p,AV.str q,AV.str r])[k]? = some (.str x):=by
     have:([p,q,r].map AV.str)[k]? = some (.str x):=by rw [aI,hx0];rfl
     exact this
    have hr2:[p,q,r].drop (k+1)=rr:=by
     rw [← List.drop_drop,hrest];rfl
    have h1:decide ((k:Int)<3)=true:=by simp;omega
    have hk6:(k:Int)<((3:Nat):Int):=by omega
    have hw:ae.wrap ((k:Int)+1)=(k:Int)+1:=ah _ (by omega)
    clear hx0 hrest
    cases hh2:qM x with
    | some v =>
     obtain⟨a1,b1,rfl,hv⟩:=oJ hh2
     have hvl:=qN hv
     obtain⟨⟨_,n1,n2⟩,_⟩:=ln hv
     have m1:((a1.toNat:Int)==43)=false:=by
      rw [beq_eq_false_iff_ne]
      intro e
      exact n1 (by rw [← cj (x:=a1),show a1.toNat=43 by omega];rfl)
     have m2:((a1.toNat:Int)==95)=false:=by
      rw [beq_eq_false_iff_ne]
      intro e
      exact n2 (by rw [← cj (x:=a1),show a1.toNat=95 by omega];rfl)
     have hpu:=fun S'=>P0 w0 HSS.out S' a1 b1 v hv
     have hacc2:nP (n * 256+v) rr=nP 0 [p,q,r]:=by rw [← hacc];simp only [nP,hh2]
     have hn2:n * 256+v<256 ^ (k+1):=by rw [lS];omega
     have hwv:ae.wrap (v:Int)=(v:Int):=ah _ (by omega)
     have hor:=Mo (a:=n) (b:=v) (k:=8) (by omega) (by omega) (by omega)
     have hor:ae.wrap (((ar ae.bits (ae.wrap ((n:Int) * 2 ^ min 8 64)) ||| ar ae.bits (v:Int)).toNat:Nat):Int)=((n * 256+v:Nat):Int):=hor
     simp only [bh] at hor
     have Hf:=ab (a6 hlt (a6 hr2 (a6 hn2 hacc2)))
     clear hlt hr2 hn2 hacc2 hacc hn hk hp3 hp3' hvl hv hh2 n1 n2 hxl
     repeat' first|refine st ?_|(refine ca ?_;apply hpu)|(refine br ?_ ?_<;>intro hb)|fail
     obtain⟨hlt,hr2,hn2,hacc2⟩:=Hf.out
     refine HI.out (k+1,n * 256+v,rr) _ _ (by simp only;omega) ⟨hlt,hr2,hn2,hacc2, ?_, ?_, ?_, ?_, ?_, ?_,rfl⟩
     all_goals (simp only [go_sem, *];try rfl)
    | none =>
     have hbad:=Bad.out (by rw [← hacc];simp only [nP,hh2])
     by_cases hl2:x.length=2
     ·obtain⟨a1,b1,rfl⟩:∃ a1 b1,x=[a1,b1]:=by
       match x,hl2 with
       | [a1,b1],_=>exact⟨a1,b1,rfl⟩
      have hpu:=fun S'=>Mm w0 HSS.out S' a1 b1 hh2
      clear hlt hr2 hacc hn hk hp3 hp3' hh2 hxl hl2 HI
      repeat' first|refine st ?_|(refine ca ?_;apply hpu)|(refine br ?_ ?_<;>intro hb)|fail
      intro t x'
      repeat' first|refine st ?_|(refine br ?_ ?_<;>intro hb)|fail
      refine fR results207 ?_
      exact hbad
     ·have hpu:=fun S'=>PZ w0 HSS.out HGG.out S' x hxl
      have m1:((x.length:Int) != 2)=true:=by rw [bne_iff_ne];omega
      clear hlt hr2 hacc hn hk hp3 hp3' hh2 hxl hl2 HI
      repeat' first|refine st ?_|(refine ca ?_;apply hpu)|(refine br ?_ ?_<;>intro hb)|fail
      ·intro v
       repeat' first|refine st ?_|(refine br ?_ ?_<;>intro hb)|fail
       refine fR results207 ?_
       exact hbad
      ·intro v t x'
       repeat' first|refine st ?_|(refine br ?_ ?_<;>intro hb)|fail
       refine fR results207 ?_
       exact hbad
   ·have hk3:k=3:=by omega
    subst hk3
    have hr0:rest=[]:=by rw [← hrest];rfl
    subst hr0
    have hg:=Good.out n (by rw [← hacc];rfl)
    have h1:decide ((3:Int)<3)=false:=by decide
    have hc3:((3:Nat):Int)=3:=rfl
    clear hlt hrest hacc hn hk hp3 hp3' HI
    repeat' first|refine st ?_|(refine br ?_ ?_<;>intro hb)|fail
    refine fR results207 ?_
    exact hg
theorem aj.libV{P:Program}{w0:World}{S:List aH}{f:FuncId}{args:List AV}{vs:List Value}{v:AV}{c:Value}{R:gC→List aH→Prop}(he:∀ (a:Array Value) (w:World),(callFunc f a).run P w=.ok (.enter f a) w)(ha:args.map DJ=vs.map some)
  (hv:∀ ι ψ,VR ι ψ v c) (h:∀ w,lR w0.heap.size w0 w→Calls P f vs.toArray w fun e w'=>e=.returned c∧lR w.heap.size w w') (hR:R (.ret v) S):aj P w0 f args S R:=by
 unfold aj
 refine⟨he,fun ι ψ w cargs hRel hl hargs=>?_⟩
 have hlen:args.length=vs.length:=by simpa using congrArg iz ha
 have:cargs=vs.toArray:=by
  apply lF
  intro j
  by_cases hj:j<args.length
  ·have h1:args[j]? = some args[j]:=al hj
   have h2:cargs[j]? = some cargs[j]:=bj (by omega)
   have h3:vs[j]? = some vs[j]:=al (by omega)
   have h4:=hargs j _ _ h1 h2
   have h5:(args.map DJ)[j]? = (vs.map some)[j]?:=by rw [ha]
   simp only [aI,h1,h3,dd,bi] at h5
   rw [h2]
   simp only [gj,h3]
   rw [mV h4 h5]
  ·rw [c_ (by omega),gj,ce (by omega)]
 subst this
 refine(h w hRel.below).mono ?_
 rintro e w' ⟨rfl,hb⟩
 have hb0:lR w0.heap.size w w':=hb.mono hRel.n0
 exact⟨ι,ψ,.ret v,S,dL.refl _ _,hRel.grow hb0 (fun k hk=>hb.block k hk) (eb.le_refl _) (fun _ _ _ e=>.inl e) (fun _ _ _ e=>.inl e),hv _ _,hR⟩
def rX:List UInt8:=[48,49,50,51,52,53,54,55,56,57]
theorem Gs(b:UInt8):rX.contains b=rY b:=by
 have:∀ n,n<256→rX.contains (ay n)=rY (ay n):=by decide +kernel
 have h:=this b.toNat b.toNat_lt
 rwa [cj] at h
theorem drop_nil{α:Type _}(p:α→Bool)(l:List α):l.dropWhile p=[]↔l.all p=true:=by
 induction l with
 | nil=>simp
 | cons b l ih =>
  rw [List.dropWhile_cons,z7]
  cases hb:p b with
  | true=>simp [ih]
  | false=>simp
theorem B5(w:List UInt8):jy w rX=[]↔w.all rY=true:=by
 have e:(fun b=>rX.contains b)=rY:=by funext b;exact Gs b
 unfold jy Lib.trimLeftS Lib.trimRightS
 rw [drop_nil,e,qU]
 constructor
 ·intro h
  have h2:(w.reverse.dropWhile rY)=[]:=by
   cases hd:w.reverse.dropWhile rY with
   | nil=>rfl
   | cons b r =>
    rw [hd,z7,ao] at h
    have:=List.head_dropWhile_not rY (l:=w.reverse) (by rw [hd];simp)
    simp only [hd,List.head_cons] at this
    rw [h.1] at this;cases this
  rw [drop_nil,qU] at h2
  exact h2
 ·intro h
  have:w.reverse.dropWhile rY=[]:=by rw [drop_nil,qU];exact h
  rw [this];rfl
theorem Ls(s:List UInt8)(hs:s.length≤10000000)(R:Rt)(h:R (.ret (.str (jy s rX))) S):aj prog w0 205 [.str s,.str [48,49,50,51,52,53,54,55,56,57]] S R:=by
 refine aj.lib (vs:=[.string ⟨s.toArray⟩,.string ⟨#[48,49,50,51,52,53,54,55,56,57]⟩]) (v:=.str (jy s rX)) (c:=.string ⟨(jy s rX).toArray⟩) (Go.Proofs.enters_of func205 (by kernel_rfl) rfl) rfl rfl ?_ h
 intro w hb
 refine(Go.Proofs.Any.strings_Trim_laid Go.Proofs.Tryz.lays160 (by kernel_rfl) ⟨s.toArray⟩ ⟨#[48,49,50,51,52,53,54,55,56,57]⟩ w ?_ (by decide) ?_).mono ?_
 ·rw [show (⟨s.toArray⟩:ByteArray).size=s.length from rfl];omega
 ·intro j b hj
  have:=ax hj
  simp at this
  rcases this with rfl|rfl|rfl|rfl|rfl|rfl|rfl|rfl|rfl|rfl<;>decide
 ·rintro e w' ⟨rfl,hb⟩
  exact⟨rfl,hb⟩
theorem atoi(s:List UInt8)(n:Int)(hl:s.length≤18)(hn:Lib.atoi s=some n)(R:Rt)(h:R (.ret (.tup [.int .i64 n,.inil])) S):aj prog w0 206 [.str s] S R:=by
 refine aj.libV (vs:=[.string ⟨s.toArray⟩]) (v:=.tup [.int .i64 n,.inil]) (c:=.tuple #[.int .i64 n,.nilIface]) (Go.Proofs.enters_of func206 (by kernel_rfl) rfl) rfl ?_ ?_ h
 ·intro ι ψ
  refine .tup _ _ rfl ?_
  rintro(_|_|j) x v h1 h2
  ·cases h1;cases h2;exact .int _ _
  ·cases h1;cases h2;exact .inil
  ·simp at h1
 ·intro w hb
  refine(Go.Proofs.Any.strconv_Atoi Go.Proofs.Tryz.lays172 ⟨s.toArray⟩ n hl hn w).mono ?_
  rintro e w' ⟨rfl,t,rfl⟩
  exact⟨rfl,Lib.bytesWorld_below w _ t⟩
theorem Lk:∀ (l:List UInt8) (acc:Nat),l.all rY=true→Lib.decFrom acc l=some (l.foldl (fun n b=>n * 10+(b.toNat - 48)) acc)
 | [],acc,_=>rfl
 | b::l,acc,h=>by
  rw [z7,ao] at h
  have hb:=h.1
  simp only [rY,ao,decide_eq_true_eq] at hb
  have h1:=Lk l (acc * 10+(b.toNat - 48)) h.2
  simp [Lib.decFrom,Lib.digitVal,hb,h1]
theorem Lv{w:List UInt8}(h1:w≠[])(h3:w.all rY=true):Lib.atoi w=some (jP w:Nat):=by
 cases w with
 | nil=>exact absurd rfl h1
 | cons b r =>
  have e1:=Lk (b::r) 0 h3
  have hb:=h3
  rw [z7,ao] at hb
  have hb:=hb.1
  simp only [rY,ao,decide_eq_true_eq] at hb
  have n1:(b==45)=false:=by rw [beq_eq_false_iff_ne];rintro rfl;exact absurd hb.1 (by decide)
  have n2:(b==43)=false:=by rw [beq_eq_false_iff_ne];rintro rfl;exact absurd hb.1 (by decide)
  rw [Lib.atoi,n1,n2]
  simp only [cg,if_false,Lib.decNat,List.isEmpty_cons,e1,dd]
  rfl
def ib:Option Ac→gC
 | some a=>.ret a.av
 | none=>.panic bA
def Ku(s:List UInt8):Option Ac:=match hY s with
 | none=>none
 | some (h,t)=>match mm h,iv t with
  | some n,some c=>some ⟨45,n,0,2,c,[]⟩
  | _,_=>none
def Kt(s:List UInt8):Option Ac:=match hY s with
 | none=>none
 | some (w,t)=>if w=[99] then (match pR t with
  | some c=>if c.length≤378 then some ⟨46,0,0,0,0,c⟩ else none
  | none=>none) else none
theorem Jj(w0:World)(hS:D_ w0)(hG:J9 w0)(S:List aH)(s:List UInt8)(hs:s.length≤10000)(R:Rt)(h:R (ib (Ku s)) S):aj prog w0 204 [.str s] S R:=by
 have ht:=fun S'=>Jc w0 S' s (by omega)
 have hmT:=li w0
 have hmF:=lj w0
 unfold Ku at h
 cases hq:hY s with
 | none =>
  rw [hq] at h ht
  unfold ib at h
  unfold uk at ht
  unfold bA at h ht
  clear hq hs hmT hmF hS hG
  refine eN func204 rfl ntmps204 fun hO=>?_
  repeat' first|refine st ?_|(refine ca ?_;apply ht)|(refine br ?_ ?_<;>intro hb)|fail
  refine fP ?_
  exact h
 | some q =>
 obtain⟨a,t⟩:=q
 obtain⟨hal,htl⟩:=oV hq
 rw [hq] at h ht
 unfold uk at ht
 simp only at h ht
 have htr:=fun S'=>Ls w0 S' a (by omega)
 have bad:(match mm a,iv t with|some n,some c=>some (⟨45,n,0,2,c,[]⟩:Ac)|_,_=>none)=none→R (.panic bA) S:=fun e=>by rw [e] at h;exact h
 unfold bA at bad hmF
 by_cases h1:a=[]
 ·subst h1
  have hb:=bad rfl
  clear bad h hq hs hmT hal htl hS hG
  refine eN func204 rfl ntmps204 fun hO=>?_
  repeat' first|refine st ?_|(refine ca ?_;first|apply ht|apply hmF)|(refine br ?_ ?_<;>intro hb)|fail
  refine fP ?_
  exact hb
 have d1:(a==[])=false:=by simpa using h1
 by_cases h2:a.length≤3
 case neg =>
  have hb:=bad (by unfold mm;rw [if_pos (.inr (.inl (by omega)))])
  have d2:decide ((a.length:Int)≤3)=false:=by simp;omega
  clear bad h hq hs hmT hal htl h1 h2 hS hG
  refine eN func204 rfl ntmps204 fun hO=>?_
  repeat' first|refine st ?_|(refine ca ?_;first|apply ht|apply hmF)|(refine br ?_ ?_<;>intro hb)|fail
  refine fP ?_
  exact hb
 have d2:decide ((a.length:Int)≤3)=true:=by simp;omega
 have htn:=B5 a
 cases h3:a.all rY with
 | false =>
  have hb:=bad (by unfold mm;rw [if_pos (.inr (.inr (.inl h3)))])
  have d3:(jy a rX==[])=false:=by rw [beq_eq_false_iff_ne];intro e;rw [htn.1 e] at h3;cases h3
  generalize jy a rX=u at htr d3
  clear bad h hq hs hmT hal htl h1 h2 h3 htn hS hG
  refine eN func204 rfl ntmps204 fun hO=>?_
  repeat' first|refine st ?_|(refine ca ?_;first|apply ht|apply htr|apply hmF)|(refine br ?_ ?_<;>intro hb)|fail
  refine fP ?_
  exact hb
 | true =>
  have d3:(jy a rX==[])=true:=by rw [beq_iff_eq];exact htn.2 h3
  have hat:=fun S'=>atoi w0 S' a (jP a:Nat) (by omega) (Lv h1 h3)
  have hco:=fun S'=>AL w0 hS hG S' t (by omega)
  have hno:mm a=if 255<jP a then none else some (jP a):=by
   unfold mm
   by_cases hv:255<jP a
   ·rw [if_pos (.inr (.inr (.inr hv))),if_pos hv]
   ·rw [if_neg (by rintro(e|e|e|e);exact h1 e;omega;rw [h3] at e;cases e;exact hv e),if_neg hv]
  generalize jy a rX=u at htr d3
  by_cases hv:255<jP a
  ·rw [if_pos hv] at hno
   have hb:=bad (by rw [hno])
   have d4:decide ((jP a:Int)≤255)=false:=by simp;omega
   generalize (jP a:Int)=v at hat d4
   clear bad h hq hs hal htl h1 h2 h3 htn hS hG hno hv
   cases hc:iv t with
   | none =>
    rw [hc] at hco
    unfold Lo at hco
    simp only at hco
    clear hc
    refine eN func204 rfl ntmps204 fun hO=>?_
    repeat' first|refine st ?_|(refine ca ?_;first|apply ht|apply htr|apply hat|apply hco|apply hmT|apply hmF)|(refine br ?_ ?_<;>intro hb)|fail
    refine fP ?_
    exact hb
   | some c =>
    rw [hc] at hco
    unfold Lo at hco
    simp only at hco
    clear hc
    refine eN func204 rfl ntmps204 fun hO=>?_
    repeat' first|refine st ?_|(refine ca ?_;first|apply ht|apply htr|apply hat|apply hco|apply hmT|apply hmF)|(refine br ?_ ?_<;>intro hb)|fail
    refine fP ?_
    exact hb
  ·rw [if_neg hv] at hno
   have d4:decide ((jP a:Int)≤255)=true:=by simp;omega
   rw [hno] at h bad
   generalize jP a=v at hat d4 h bad
   clear hq hs hal htl h1 h2 h3 htn hS hG hno hv
   cases hc:iv t with
   | none =>
    rw [hc] at hco
    have hb:=bad (by rw [hc])
    unfold Lo at hco
    simp only at hco
    clear hc bad h
    refine eN func204 rfl ntmps204 fun hO=>?_
    repeat' first|refine st ?_|(refine ca ?_;first|apply ht|apply htr|apply hat|apply hco|apply hmT|apply hmF)|(refine br ?_ ?_<;>intro hb)|fail
    refine fP ?_
    exact hb
   | some c =>
    rw [hc] at hco h
    unfold Lo at hco
    simp only at hco
    have h:R (.ret (.agg [.int .i64 45,.int .i64 (v:Int),.int .i64 0,.int .i64 2,.int .i64 (c:Int),.str []])) S:=h
    clear hc bad
    refine eN func204 rfl ntmps204 fun hO=>?_
    repeat' first|refine st ?_|(refine ca ?_;first|apply ht|apply htr|apply hat|apply hco|apply hmT)|(refine br ?_ ?_<;>intro hb)|fail
    refine fR results204 ?_
    exact h
theorem Ji(s:List UInt8)(hs:s.length≤8192)(R:Rt)(h:R (ib (Kt s)) S):aj prog w0 208 [.str s] S R:=by
 have ht:=fun S'=>Jc w0 S' s (by omega)
 have hmT:=li w0
 have hmF:=lj w0
 unfold Kt at h
 cases hq:hY s with
 | none =>
  rw [hq] at h ht
  unfold ib at h
  unfold uk at ht
  unfold bA at h ht
  clear hq hs hmT hmF
  refine eN func208 rfl ntmps208 fun hO=>?_
  repeat' first|refine st ?_|(refine ca ?_;apply ht)|(refine br ?_ ?_<;>intro hb)|fail
  refine fP ?_
  exact h
 | some q =>
 obtain⟨a,t⟩:=q
 obtain⟨hal,htl⟩:=oV hq
 rw [hq] at h ht
 unfold uk at ht
 simp only at h ht
 have hde:=fun S'=>FY w0 S' t (by omega)
 unfold JQ at hde
 unfold bA at hmF
 by_cases h1:a=[99]
 ·subst h1
  rw [if_pos rfl] at h
  cases hd:pR t with
  | none =>
   rw [hd] at h hde
   unfold ib bA at h
   simp only at h hde
   clear hd hq hs hal htl hmT
   refine eN func208 rfl ntmps208 fun hO=>?_
   repeat' first|refine st ?_|(refine ca ?_;first|apply ht|apply hde|apply hmF)|(refine br ?_ ?_<;>intro hb)|fail
   refine fP ?_
   exact h
  | some c =>
   rw [hd] at h hde
   simp only at h hde
   by_cases hc:c.length≤378
   ·rw [if_pos hc] at h
    have d1:decide ((c.length:Int)≤378)=true:=by simp;omega
    have h:R (.ret (.agg [.int .i64 46,.int .i64 0,.int .i64 0,.int .i64 0,.int .i64 0,.str c])) S:=h
    clear hd hq hs hal htl hmF hc
    refine eN func208 rfl ntmps208 fun hO=>?_
    repeat' first|refine st ?_|(refine ca ?_;first|apply ht|apply hde|apply hmT)|(refine br ?_ ?_<;>intro hb)|fail
    refine fR results208 ?_
    exact h
   ·rw [if_neg hc] at h
    have d1:decide ((c.length:Int)≤378)=false:=by simp;omega
    unfold ib bA at h
    simp only at h
    clear hd hq hs hal htl hmT hc
    refine eN func208 rfl ntmps208 fun hO=>?_
    repeat' first|refine st ?_|(refine ca ?_;first|apply ht|apply hde|apply hmF)|(refine br ?_ ?_<;>intro hb)|fail
    refine fP ?_
    exact h
 ·rw [if_neg h1] at h
  have d1:(a==[99])=false:=by simpa using h1
  unfold ib bA at h
  simp only at h
  cases hd:pR t with
  | none =>
   rw [hd] at hde
   simp only at hde
   clear hd hq hs hal htl hmT h1
   refine eN func208 rfl ntmps208 fun hO=>?_
   repeat' first|refine st ?_|(refine ca ?_;first|apply ht|apply hde|apply hmF)|(refine br ?_ ?_<;>intro hb)|fail
   refine fP ?_
   exact h
  | some c =>
   rw [hd] at hde
   simp only at hde
   clear hd hq hs hal htl hmT h1
   refine eN func208 rfl ntmps208 fun hO=>?_
   repeat' first|refine st ?_|(refine ca ?_;first|apply ht|apply hde|apply hmF)|(refine br ?_ ?_<;>intro hb)|fail
   refine fP ?_
   exact h
theorem FQ(a:Ac)(hs:a.text.length≤10000000)(hk:a.kind=46)(R:Rt)(h:R (if a=⟨46,0,0,0,0,a.text⟩∧a.text.length≤378 then .ret (.str (53::50::59::99::59::hU a.text)) else .panic bA) S):aj prog w0 116 [a.av] S R:=by
 have hpT:=fun S'=>uR w0 S' a ⟨a.kind,0,0,0,0,a.text⟩
 have hpF:=fun S'=>uT w0 S' a ⟨a.kind,0,0,0,0,a.text⟩
 have hmT:=li w0
 have hmF:=lj w0
 obtain⟨k,n,m,ck,cn,t⟩:=a
 simp only at hk hs hpT hpF h
 subst hk
 unfold Ac.av at hpT hpF ⊢
 simp only at hpT hpF ⊢
 unfold bA at hmF
 by_cases he:(⟨46,n,m,ck,cn,t⟩:Ac)=⟨46,0,0,0,0,t⟩
 ·have hp:=fun S'=>hpT S' he
  by_cases hl:t.length≤378
  ·rw [if_pos ⟨he,hl⟩] at h
   have d1:decide ((t.length:Int)≤378)=true:=by simp;omega
   have hen:=fun S'=>FX w0 S' t (by omega)
   have hfl:(hU t).length≤1000:=by
    have h1:=xa t
    unfold hU gD
    rw [ai,List.length_replicate]
    omega
   have hl5:5+(hU t).length≤9223372036854775807:=by omega
   generalize hU t=E at *
   clear hpT hpF he hl hs hmF hfl
   refine eN func116 rfl ntmps116 fun hO=>?_
   repeat' first|refine st ?_|(refine ca ?_;first|apply hp|apply hen|apply hmT)|(refine br ?_ ?_<;>intro hb)|fail
   refine fR results116 ?_
   exact h
  ·rw [if_neg (fun e=>hl e.2)] at h
   have d1:decide ((t.length:Int)≤378)=false:=by simp;omega
   unfold bA at h
   clear hpT hpF he hl hs hmT
   refine eN func116 rfl ntmps116 fun hO=>?_
   repeat' first|refine st ?_|(refine ca ?_;first|apply hp|apply hmF)|(refine br ?_ ?_<;>intro hb)|fail
   refine fP ?_
   exact h
 ·have hp:=fun S'=>hpF S' he
  rw [if_neg (fun e=>he e.1)] at h
  unfold bA at h hp
  clear hpT hpF he hs hmT hmF
  refine eN func116 rfl ntmps116 fun hO=>?_
  repeat' first|refine st ?_|(refine ca ?_;apply hp)|(refine br ?_ ?_<;>intro hb)|fail
  refine fP ?_
  exact h
theorem FS(w0:World)(hT:J8 w0)(hD:zX w0)(hN:Ek w0)(S:List aH)(a:Ac)(hk:a.kind=45)(R:Rt)
  (h:R (if a=⟨45,a.n,0,2,a.cn,[]⟩∧(0≤a.n∧a.n≤255)∧(0≤a.cn∧a.cn≤16777215) then .ret (.str (52::59::(gn a.n++59::kg a.cn.toNat))) else .panic bA) S):aj prog w0 114 [a.av] S R:=by
 have hpT:=fun S'=>uR w0 S' a ⟨a.kind,a.n,0,a.ck,a.cn,[]⟩
 have hpF:=fun S'=>uT w0 S' a ⟨a.kind,a.n,0,a.ck,a.cn,[]⟩
 have hmT:=li w0
 have hmF:=lj w0
 obtain⟨k,n,m,ck,cn,t⟩:=a
 simp only at hk hpT hpF h
 subst hk
 unfold Ac.av at hpT hpF ⊢
 simp only at hpT hpF ⊢
 unfold bA at hmF
 by_cases he:(⟨45,n,m,ck,cn,t⟩:Ac)=⟨45,n,0,ck,cn,[]⟩
 case neg =>
  have hp:=fun S'=>hpF S' he
  rw [if_neg (fun e=>he (by have h2:=e.1;simp only [Ac.mk.injEq] at h2 ⊢;exact⟨trivial,trivial,h2.2.2.1,trivial,trivial,h2.2.2.2.2.2⟩))] at h
  unfold bA at h hp
  clear hpT hpF he hmT hmF hT hD hN
  refine eN func114 rfl ntmps114 fun hO=>?_
  repeat' first|refine st ?_|(refine ca ?_;apply hp)|(refine br ?_ ?_<;>intro hb)|fail
  refine fP ?_
  exact h
 case pos =>
 have hp:=fun S'=>hpT S' he
 have hm0:m=0∧t=[]:=by simp only [Ac.mk.injEq] at he;exact⟨he.2.2.1,he.2.2.2.2.2⟩
 obtain⟨rfl,rfl⟩:=hm0
 clear hpT hpF he
 by_cases hc:ck=2∧jh 2 cn=true
 ·obtain⟨rfl,hcb⟩:=hc
  have hb:0≤cn∧cn≤16777215:=by simpa [jh,wI] using hcb
  obtain⟨v,rfl⟩:∃ v:Nat,cn=v:=⟨cn.toNat,by omega⟩
  have htx:=fun S'=>He w0 hD S' 2 v v (by omega) hcb (fun S' R h=>KU w0 S' v hcb R h)
  by_cases hn:0≤n∧n≤255
  ·rw [if_pos ⟨rfl,hn,hb⟩] at h
   obtain⟨u,rfl⟩:∃ u:Nat,n=u:=⟨n.toNat,by omega⟩
   have hit:=fun S'=>itoa w0 hT S' (u:Int) (by omega) (by omega)
   have hil:=(rL u (by omega)).2.1
   have d1:decide ((0:Int)≤(u:Int))=true:=by simp
   have d2:decide ((u:Int)≤255)=true:=by simp;omega
   have hrl:(kg v).length=12:=rfl
   rw [Int.toNat_natCast] at h
   generalize gn (u:Int)=I at *
   generalize kg v=T at *
   have q1:2+I.length≤9223372036854775807:=by omega
   have q2:I.length+1+1+1≤9223372036854775807:=by omega
   have q3:I.length+3≤9223372036854775807:=by omega
   have q4:I.length+1+1+1+T.length≤9223372036854775807:=by omega
   have q5:I.length+3+T.length≤9223372036854775807:=by omega
   clear hcb hb hn hil hrl hmF hT hD hN
   refine eN func114 rfl ntmps114 fun hO=>?_
   repeat' first|apply fK|apply eg|apply dx|apply eh|apply fL|apply bU|apply fQ|apply bW|apply bJ|apply cE|apply bV|apply bI|apply bo|apply fO|(apply bp;(· rfl))|(apply cC;simp only [bg])|(apply dq;(· rfl);(· simp only [go_sem, *,ai,aN];try rfl);(· rfl);simp only [putA])|(apply eo;simp only [putA])|apply cF|(apply cZ [];(· simp only [go_sem, *,ai,aN];try rfl);(· rfl);(· simp only [go_sem, *,ai,aN];try rfl);(· rfl);(iterate 2 (· simp only [go_sem, *,ai,aN];try rfl));(first|apply hp|apply htx|apply hit|apply hmT);simp only [aV,putA])|(apply dr;(· simp only [go_sem, *,ai,aN];try rfl);(· rfl);(· simp only [go_sem, *,ai,aN];try rfl))|(apply dF;(iterate 2 (· simp only [go_sem, *,ai,aN];try rfl));(· rfl);simp only [putA])|(apply bH;(· simp only [go_sem, *,ai,aN];try rfl);(· rfl);simp only [putA])|(apply dt;(· simp only [go_sem, *,ai,aN];try rfl))|(apply dw;(· simp only [go_sem, *,ai,aN];try rfl))|(apply cD;(· rfl);(fail_if_success (focus (show _=some true;(· simp only [go_sem, *,ai,aN];try rfl))));(· simp only [go_sem, *,ai,aN];try rfl);all_goals (intro hb;try simp only [aw,aE] at hb))|(apply du;(· simp only [go_sem, *,ai,aN];try rfl);all_goals (intro hb;try simp only [aw,aE] at hb))|fail
   refine fR results114 ?_
   exact h
  ·rw [if_neg (fun e=>hn e.2.1)] at h
   unfold bA at h
   by_cases hn0:0≤n
   ·have d1:decide ((0:Int)≤n)=true:=by simpa using hn0
    have d2:decide (n≤255)=false:=by simp;omega
    clear hcb hb hn hn0 hmT hT hD hN
    refine eN func114 rfl ntmps114 fun hO=>?_
    repeat' first|refine st ?_|(refine ca ?_;first|apply hp|apply htx|apply hmF|apply hmT)|(refine br ?_ ?_<;>intro hb)|fail
    refine fP ?_
    exact h
   ·have d1:decide ((0:Int)≤n)=false:=by simpa using hn0
    clear hcb hb hn hn0 hmT hT hD hN
    refine eN func114 rfl ntmps114 fun hO=>?_
    repeat' first|refine st ?_|(refine ca ?_;first|apply hp|apply htx|apply hmF|apply hmT)|(refine br ?_ ?_<;>intro hb)|fail
    refine fP ?_
    exact h
 ·have htx:=fun S' R (h:∀ x e,(((e:Int)==0)&&((ck:Int)==2))=false→R (.ret (.tup [.str x,.int .i64 e])) S')=>Jd w0 hD hN S' ck cn R (fun e1 e2=>absurd ⟨e1,e2⟩ hc) (fun x e _ e2=>h x e e2)
  rw [if_neg (fun e=>hc (by
   have h2:=e.1
   simp only [Ac.mk.injEq] at h2
   refine⟨h2.2.2.2.1, ?_⟩
   have:=e.2.2
   simp [jh,wI]
   exact this))] at h
  unfold bA at h
  clear hc hT hD hN
  refine eN func114 rfl ntmps114 fun hO=>?_
  repeat' first|refine st ?_|(refine ca ?_;first|apply hp|apply htx)|(refine br ?_ ?_<;>intro hb)|fail
  intro x e hxe
  cases h1:((e:Int)==0) with
  | false =>
   clear hxe
   repeat' first|refine st ?_|(refine ca ?_;apply hmF)|(refine br ?_ ?_<;>intro hb)|fail
   refine fP ?_
   exact h
  | true =>
   have h2:((ck:Int)==2)=false:=by rw [h1] at hxe;simpa using hxe
   clear hxe
   repeat' first|refine st ?_|(refine ca ?_;apply hmF)|(refine br ?_ ?_<;>intro hb)|fail
   refine fP ?_
   exact h
def ml:Option (List UInt8)→gC
 | some s=>.ret (.str s)
 | none=>.panic bA
def Mh:List (AV × AV):=[(.int .i64 44,.fn (.func 111) [] []),(.int .i64 45,.fn (.func 114) [] []),(.int .i64 46,.fn (.func 116) [] [])]
def Ma:List (AV × AV):=[(.str [48],.fn (.func 203) [] []),(.str [50],.fn (.func 203) [] []),(.str [52],.fn (.func 204) [] []),(.str [53,50],.fn (.func 208) [] [])]
theorem FL(R:Rt)(h:R (.ret (.mval Mh)) S):aj prog w0 51 [] S R:=by
 unfold Mh at h
 refine eN func51 rfl ntmps51 fun hO=>?_
 repeat' first|refine st ?_|(refine br ?_ ?_<;>intro hb)|fail
 refine fR results51 ?_
 exact h
theorem Jh(R:Rt)(h:R (.ret (.mval Ma)) S):aj prog w0 136 [] S R:=by
 unfold Ma at h
 refine eN func136 rfl ntmps136 fun hO=>?_
 repeat' first|refine st ?_|(refine br ?_ ?_<;>intro hb)|fail
 refine fR results136 ?_
 exact h
theorem Ml{a:Ac}(h:a.kind=44):cK a=if a=⟨44,0,0,0,0,a.text⟩∧gq a.text=true then some (50::59::a.text) else none:=by
 unfold cK
 split
 ·rfl
 ·rw [if_neg (fun e=>by rw [e.1] at h;cases h),if_neg (fun e=>by rw [e.1] at h;cases h)]
theorem Mk{a:Ac}(h:a.kind=45):cK a=if a=⟨45,a.n,0,2,a.cn,[]⟩∧(0≤a.n∧a.n≤255)∧(0≤a.cn∧a.cn≤16777215) then some (52::59::(gn a.n++59::kg a.cn.toNat)) else none:=by
 unfold cK
 rw [if_neg (fun e=>by rw [e.1] at h;cases h)]
 split
 ·rfl
 ·rw [if_neg (fun e=>by rw [e.1] at h;cases h)]
theorem Mj{a:Ac}(h:a.kind=46):cK a=if a=⟨46,0,0,0,0,a.text⟩∧a.text.length≤378 then some (53::50::59::99::59::hU a.text) else none:=by
 unfold cK
 rw [if_neg (fun e=>by rw [e.1] at h;cases h),if_neg (fun e=>by rw [e.1] at h;cases h)]
theorem Mg{a:Ac}(h1:a.kind≠44)(h2:a.kind≠45)(h3:a.kind≠46):cK a=none:=by
 unfold cK
 rw [if_neg (fun e=>h1 (by rw [e.1])),if_neg (fun e=>h2 (by rw [e.1])),if_neg (fun e=>h3 (by rw [e.1]))]
theorem FP(w0:World)(hT:J8 w0)(hD:zX w0)(hN:Ek w0)(S:List aH)(a:Ac)(i:Nat)(ha:S[i]? = some (.cells [.int .i64 a.kind,.int .i64 a.n,.int .i64 a.m,.int .i64 a.ck,.int .i64 a.cn,.str a.text]))(hs:a.text.length≤10000000)(R:Rt)(h:R (ml (cK a)) S):aj prog w0 50 [.own i 0] S R:=by
 have hm:=FL w0
 unfold Mh at hm
 have hmT:=li w0
 have hmF:=lj w0
 unfold bA at hmF
 by_cases h4:a.kind=44
 ·have hp:=fun S'=>FT w0 S' a hs h4
  rw [Ml h4] at h
  by_cases hc:a=⟨44,0,0,0,0,a.text⟩∧gq a.text=true
  ·rw [if_pos hc] at h
   simp only [if_pos hc] at hp
   clear hc hs hT hD hN
   obtain⟨k,n,m,ck,cn,t⟩:=a
   simp only at h4 ha h hp
   subst h4
   unfold Ac.av at hp
   unfold ml at h
   simp only at hp h
   refine eN func50 rfl ntmps50 fun hO=>?_
   repeat' first|refine st ?_|(refine ca ?_;first|apply hm|apply hmT|apply hp)|(refine br ?_ ?_<;>intro hb)|refine sd ?_|apply au|(apply aF;(· decide +kernel))|refine bd ?_ ?_|(refine cd ?_;first|apply hm|apply hmT|apply hp)|fail
   all_goals refine fR results50 ?_
   all_goals exact h
  ·rw [if_neg hc] at h
   simp only [if_neg hc] at hp
   clear hc hs hT hD hN
   obtain⟨k,n,m,ck,cn,t⟩:=a
   simp only at h4 ha h hp
   subst h4
   unfold Ac.av bA at hp
   unfold ml bA at h
   simp only at hp h
   refine eN func50 rfl ntmps50 fun hO=>?_
   repeat' first|refine st ?_|(refine ca ?_;first|apply hm|apply hmT|apply hp)|(refine br ?_ ?_<;>intro hb)|refine sd ?_|apply au|(apply aF;(· decide +kernel))|refine bd ?_ ?_|(refine cd ?_;first|apply hm|apply hmT|apply hp)|fail
   all_goals refine fP ?_
   all_goals exact h
 by_cases h5:a.kind=45
 ·have hp:=fun S'=>FS w0 hT hD hN S' a h5
  rw [Mk h5] at h
  by_cases hc:a=⟨45,a.n,0,2,a.cn,[]⟩∧(0≤a.n∧a.n≤255)∧(0≤a.cn∧a.cn≤16777215)
  ·rw [if_pos hc] at h
   simp only [if_pos hc] at hp
   clear hc hs hT hD hN h4
   obtain⟨k,n,m,ck,cn,t⟩:=a
   simp only at h5 ha h hp
   subst h5
   unfold Ac.av at hp
   unfold ml at h
   simp only at hp h
   generalize (52::59::(gn n++59::kg cn.toNat))=T at hp h
   refine eN func50 rfl ntmps50 fun hO=>?_
   repeat' first|refine st ?_|(refine ca ?_;first|apply hm|apply hmT|apply hp)|(refine br ?_ ?_<;>intro hb)|refine sd ?_|apply au|(apply aF;(· decide +kernel))|refine bd ?_ ?_|(refine cd ?_;first|apply hm|apply hmT|apply hp)|fail
   all_goals refine fR results50 ?_
   all_goals exact h
  ·rw [if_neg hc] at h
   simp only [if_neg hc] at hp
   clear hc hs hT hD hN h4
   obtain⟨k,n,m,ck,cn,t⟩:=a
   simp only at h5 ha h hp
   subst h5
   unfold Ac.av bA at hp
   unfold ml bA at h
   simp only at hp h
   refine eN func50 rfl ntmps50 fun hO=>?_
   repeat' first|refine st ?_|(refine ca ?_;first|apply hm|apply hmT|apply hp)|(refine br ?_ ?_<;>intro hb)|refine sd ?_|apply au|(apply aF;(· decide +kernel))|refine bd ?_ ?_|(refine cd ?_;first|apply hm|apply hmT|apply hp)|fail
   all_goals refine fP ?_
   all_goals exact h
 by_cases h6:a.kind=46
 ·have hp:=fun S'=>FQ w0 S' a hs h6
  rw [Mj h6] at h
  by_cases hc:a=⟨46,0,0,0,0,a.text⟩∧a.text.length≤378
  ·rw [if_pos hc] at h
   simp only [if_pos hc] at hp
   clear hc hs hT hD hN h4 h5
   obtain⟨k,n,m,ck,cn,t⟩:=a
   simp only at h6 ha h hp
   subst h6
   unfold Ac.av at hp
   unfold ml at h
   simp only at hp h
   generalize (53::50::59::99::59::hU t)=T at hp h
   refine eN func50 rfl ntmps50 fun hO=>?_
   repeat' first|refine st ?_|(refine ca ?_;first|apply hm|apply hmT|apply hp)|(refine br ?_ ?_<;>intro hb)|refine sd ?_|apply au|(apply aF;(· decide +kernel))|refine bd ?_ ?_|(refine cd ?_;first|apply hm|apply hmT|apply hp)|fail
   all_goals refine fR results50 ?_
   all_goals exact h
  ·rw [if_neg hc] at h
   simp only [if_neg hc] at hp
   clear hc hs hT hD hN h4 h5
   obtain⟨k,n,m,ck,cn,t⟩:=a
   simp only at h6 ha h hp
   subst h6
   unfold Ac.av bA at hp
   unfold ml bA at h
   simp only at hp h
   refine eN func50 rfl ntmps50 fun hO=>?_
   repeat' first|refine st ?_|(refine ca ?_;first|apply hm|apply hmT|apply hp)|(refine br ?_ ?_<;>intro hb)|refine sd ?_|apply au|(apply aF;(· decide +kernel))|refine bd ?_ ?_|(refine cd ?_;first|apply hm|apply hmT|apply hp)|fail
   all_goals refine fP ?_
   all_goals exact h
 ·rw [Mg h4 h5 h6] at h
  unfold ml bA at h
  simp only at h
  have b4:(a.kind==44)=false:=by simpa using h4
  have b5:(a.kind==45)=false:=by simpa using h5
  have b6:(a.kind==46)=false:=by simpa using h6
  clear hs hT hD hN h4 h5 h6
  obtain⟨k,n,m,ck,cn,t⟩:=a
  simp only at ha b4 b5 b6
  refine eN func50 rfl ntmps50 fun hO=>?_
  repeat' first|refine st ?_|(refine ca ?_;first|apply hm|apply hmF)|(refine br ?_ ?_<;>intro hb)|refine sd ?_|apply au|(apply aF;(· decide +kernel))|refine bd ?_ ?_|(refine cd ?_;first|apply hm|apply hmF)|fail
  all_goals refine fP ?_
  all_goals exact h
end Go.Proofs.YthdbijpefkapnaaGreatDoor
