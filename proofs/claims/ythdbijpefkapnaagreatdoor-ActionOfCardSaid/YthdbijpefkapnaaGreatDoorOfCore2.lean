/- YthdbijpefkapnaaGreatDoorOfCore2: a part of the proof. -/
import Derived.Test.YthdbijpefkapnaaGreatDoorOfCore1
import Derived.TacticsIn
import Derived.OrdersIn
import Derived.RangeFuncIn
import Derived.RecoverIn
import Derived.Lib.Hide
import Derived.Laws.Externs
set_option linter.all false
set_option linter.unusedVariables false
set_option linter.unusedSimpArgs false
open Array renaming eq_empty_of_size_eq_zero → rx, ext_getElem? → ma, getD_eq_getD_getElem? → aC, getElem?_append_left → lD, getElem?_eq_getElem → bm, getElem?_eq_none → dg, getElem?_map → lc, getElem?_setIfInBounds → bJ, getElem?_toList → bu, isEmpty_eq_false_iff → ub, length_toList → fk, mapM_eq_mapM_toList → yJ, replicate → bT, size_pos_iff → Cy, toList_filter → Bb, toList_inj → IV
open Bool renaming and_assoc → yE, and_eq_true → aq, and_false → cr, and_true → cG, false_and → bO, false_eq_true → aZ, false_or → wG, not_eq_true' → ay, not_false → bQ, not_true → cq, or_false → fI, true_and → bP
open Go.Instr renaming loadAt → np, next → kJ, sureAddr → eF
open Go.Op renaming operands → bB
open Go.Region renaming binds → fe, free_spec → Fj, ready → cu, wanted → jK
open Go.Result renaming andThen_ok → cA
open Go.RowKit.Below renaming refl → Cx
open Go.Sem renaming run → qH, run_bind → co, run_pure → gp
open Go.World renaming alloc_heap_new → j9, putObj → nR, putObj_heap_same → ez
open List renaming all_cons → tL, all_eq_true → aD, any_cons → fS, any_nil → gv, append_assoc → aP, append_nil → aG, cons_append → fQ, drop_succ_cons → dw, drop_zero → cQ, eq_nil_of_length_eq_zero → bW, eraseIdx_cons_succ → yD, filter_cons → Fv, find?_cons → ld, flatMap_cons → kF, foldl_cons → g9, getElem?_append_left → au, getElem?_append_right → aA, getElem?_eq_getElem → ap, getElem?_eq_none → bR, getElem?_eq_some_iff → af, getElem?_map → aJ, getElem?_of_mem → aV, getElem?_set_ne → be, getElem?_take → bc, getElem?_toArray → gA, length → jI, length_append → ah, length_cons → aB, length_eq_zero_iff → kE, length_eraseIdx_of_lt → uY, length_map → bi, length_nil → aI, map_append → aM, map_cons → al, map_nil → aj, mem_append_left → lA, mem_append_right → dF, mem_cons → bD, mem_filter → Cv, mem_filterMap → tK, mem_map → aN, mem_map_of_mem → dc, mem_of_find?_eq_some → oJ, mem_of_getElem? → ax, mem_singleton → a_, nil_append → gu, nodup_cons → pT, range → bh, range' → yC, set_append_right → eI, size_toArray → iM, take_left → yB, take_length → bC, take_of_length_le → dJ, take_succ_cons → aR, take_take → yA, take_zero → aO, toList_toArray → bj
open Nat renaming add_sub_cancel_left → CD, add_zero → l8, le_refl → ba, le_trans → fc, lt_of_not_le → wC, mod_lt → eh, zero_add → bG, zero_le → bf, zero_lt_succ → fH
open Option renaming bind_some → Jl, getD_some → Fs, isSome_none → Cr, isSome_some → Cq, map_eq_some_iff → aL, map_none → kj, map_some → dp
open Option.some renaming injEq → bl
namespace Go.Fen
open Go.RowKit
inductive AX where
 | normal|exit (id:Nat)|goto (l:Nat)|ret|panic (v:AV)
inductive gL where
 | ret (v:AV)|panic (v:AV)
def XR(ι:List Pl)(ψ:eo):AX→Exit→Prop
 | .normal,.normal=>True
 | .exit i,.exit j=>i=j
 | .goto i,.goto j=>i=j
 | .ret,.ret=>True
 | .panic v,.panic ch=>∃ c,ch=[{ v:=c,recovered:=false }]∧VR ι ψ v c
 | _,_=>False
def nf(ι:List Pl)(ψ:eo):gL→Ending→Prop
 | .ret v,.returned c=>VR ι ψ v c
 | .panic v,.panicked ch=>∃ c,ch=[{ v:=c,recovered:=false }]∧VR ι ψ v c
 | _,_=>False
abbrev du:=Nat→AV
abbrev bU:=AX→du→List aH→Prop
def lz(w0:World)(n0 N:Nat)(ι:List Pl)(ψ:eo)(Q:bU)(e:Exit)(a:Act)(w:World):Prop :=
 ∃ ι' ψ' x env S,dW (ι.take n0) ψ ι' ψ'∧cO w0 ι' ψ' S w∧fT ι' ψ' N env a∧XR ι' ψ' x e∧Q x env S
inductive KI where
 | code (c:Code)
 | ops (all:Array Oper) (l:List Oper)
 | lp (c:Code)
def FR(r:Option Nat):Fence:={ Fence.wide with round:=r }
theorem oB{r:Option Nat}{n:Nat}{P:Program}{f:FuncId}{args:Array Value}{w:World}{R:Ending→World→Prop}(h:Calls P f args w R):CallsIn (FR r) n P f args w R :=
 (callsIn_wide (n:=n)).2 h
theorem vt(r:Option Nat)(n:Nat):(FR r).room n:=fun _ h=>by simp [FR,Fence.wide] at h
theorem sZ(r:Option Nat){n:Nat}:(FR r).depth.isSome=true→1≤n:=fun h=>by simp [FR,Fence.wide] at h
def LW(P:Program)(r:Option Nat)(Q:Exit→Act→World→Prop)(c:Code)(a:Act)(w:World):Prop :=
 ∀ (b:Frame) (k:List Item) (cs:List Frame),b.roundOf=r→∃ e a' w',Q e a' w'∧ArrivesIn (Machine.fenced P (FR r)) P (lone (b.atR a (.inLoop c::k)) cs w) b k cs e a' w'
theorem LW.round{P:Program}{r:Option Nat}{Q:Exit→Act→World→Prop}{c:Code}{a:Act}{w:World}(h:c.wpIn (FR r) 0 P (Exit.then (LW P r Q c) Q) a w)(b:Frame)(k:List Item)(cs:List Frame)(hb:b.roundOf=r) :
  ∃ e a' w',Q e a' w'∧ArrivesIn (Machine.fenced P (FR r)) P (lone (b.atR a (.code c::.inLoop c::k)) cs w) b k cs e a' w':=by
 obtain⟨e,a₁,w₁,hq,harr⟩:=h b (.inLoop c::k) cs hb trivial (vt _ _)
 cases e with
 | normal =>
  obtain⟨e2,a2,w2,hq2,harr2⟩:=hq b k cs hb
  exact⟨e2,a2,w2,hq2,.of_steps harr harr2⟩
 | exit id=>exact⟨_,a₁,w₁,hq,.pass (x:=.inLoop c) rfl (fun _ _=>.inl χ) harr⟩
 | goto l=>exact⟨_,a₁,w₁,hq,.pass (x:=.inLoop c) rfl (fun _ _=>.inl χ) harr⟩
 | ret=>exact⟨_,a₁,w₁,hq,.pass (x:=.inLoop c) rfl (fun _ _=>.inl χ) harr⟩
 | panic ch=>exact⟨_,a₁,w₁,hq,.pass (x:=.inLoop c) rfl (fun _ _=>.inl χ) harr⟩
 | outgrown=>exact⟨_,a₁,w₁,hq,.pass (x:=.inLoop c) rfl (fun _ _=>.inl χ) harr⟩
theorem LW.head{P:Program}{r:Option Nat}{Q:Exit→Act→World→Prop}{c:Code}{a:Act}{w:World}(h:c.wpIn (FR r) 0 P (Exit.then (LW P r Q c) Q) a w):LW P r Q c a w:=by
 intro b k cs hb
 obtain⟨e,a',w',hq,harr⟩:=LW.round h b k cs hb
 exact⟨e,a',w',hq,.of_steps (.one (fenced_calm (n:=0) (fr:=b.atR a (.inLoop c::k)) trivial (vt _ _) rfl) stepR_inLoop) harr⟩
theorem LW.loop{P:Program}{r:Option Nat}{Q:Exit→Act→World→Prop}{c:Code}{a:Act}{w:World}(h:c.wpIn (FR r) 0 P (Exit.then (LW P r Q c) Q) a w):(Code.loop c).wpIn (FR r) 0 P Q a w:=by
 intro b k cs hb _ _
 obtain⟨e,a',w',hq,harr⟩:=LW.round h b k cs hb
 exact⟨e,a',w',hq,.of_steps (.one (fenced_calm (n:=0) (fr:=b.atR a (.code (.loop c)::k)) trivial (vt _ _) rfl) stepR_loop) harr⟩
theorem LW.mono{P:Program}{r:Option Nat}{Q Q':Exit→Act→World→Prop}{c:Code}{a:Act}{w:World}(h:LW P r Q c a w)(hq:∀ e a w,Q e a w→Q' e a w):LW P r Q' c a w :=
 fun b k cs hb=>let ⟨e,a',w',q,r⟩:=h b k cs hb;⟨e,a',w',hq _ _ _ q,r⟩
def KI.wp(P:Program)(r:Option Nat)(Q:Exit→Act→World→Prop):KI→Act→World→Prop
 | .code c,a,w=>c.wpIn (FR r) 0 P Q a w
 | .lp c,a,w=>LW P r Q c a w
 | .ops all l,a,w=>wpListIn (FR r) 0 P all Q l a w
theorem ue{P:Program}{F:Fence}{n:Nat}{o:Oper}{a:Act}{K K':Act→World→Prop}{Q Q':Exit→Act→World→Prop}(hk:∀ a w,K a w→K' a w)(hq:∀ e a w,Q e a w→Q' e a w) :
  ∀ r,o.uponIn F n P a K Q r→o.uponIn F n P a K' Q' r:=by
 intro r h
 unfold Oper.uponIn at h ⊢
 split at h
 ·exact hk _ _ h
 ·exact hk _ _ h
 ·exact hk _ _ h
 ·refine⟨h.1,h.2.mono fun e w' he=>?_⟩
  cases e with
  | returned v=>exact hk _ _ he
  | panicked ch=>exact hq _ _ _ he
  | outgrown=>obtain⟨a₀,w₀,h0⟩:=he;exact⟨a₀,w₀,hq _ _ _ h0⟩
 ·exact⟨h.1,h.2.mono fun v w' he=>hk _ _ he⟩
 ·refine⟨h.1,h.2.mono fun e w' he=>?_⟩
  cases e with
  | returned v=>exact hk _ _ he
  | panicked ch=>exact hq _ _ _ he
  | outgrown=>obtain⟨a₀,w₀,h0⟩:=he;exact⟨a₀,w₀,hq _ _ _ h0⟩
 ·exact hq _ _ _ h
 ·exact h.elim
theorem qh{P:Program}{F:Fence}{all:Array Oper}{Q Q':Exit→Act→World→Prop}(hq:∀ e a w,Q e a w→Q' e a w):∀ (l:List Oper) (a:Act) (w:World),wpListIn F 0 P all Q l a w→wpListIn F 0 P all Q' l a w
 | [],_,_,h=>hq _ _ _ h
 | o::l,a,w,h=>by
  unfold wpListIn at h ⊢
  split
  ·next hw =>
   rw [if_pos hw] at h
   exact⟨h.1,ue (qh hq l) hq _ h.2⟩
  ·next hw =>
   rw [if_neg hw] at h
   exact⟨h.1,qh hq l _ _ h.2⟩
theorem KI.mono{P:Program}{r:Option Nat}{it:KI}{Q Q':Exit→Act→World→Prop}{a:Act}{w:World}(h:it.wp P r Q a w)(hq:∀ e a w,Q e a w→Q' e a w):it.wp P r Q' a w:=by
 cases it with
 | code c=>exact wpIn_mono h hq
 | lp c=>exact LW.mono h hq
 | ops all l=>exact qh hq l a w h
theorem ej{P:Program}{r:Option Nat}{all:Array Oper}{Q:Exit→Act→World→Prop}{o:Oper}{l:List Oper}{a:Act}{w:World}(hw:jK o (yielded all a.tmps)=true)(hd:∀ c,o.op≠.defer c)
  (h:o.uponIn (FR r) 0 P a (wpListIn (FR r) 0 P all Q l) Q ((execOp a.eval o).run P w)):wpListIn (FR r) 0 P all Q (o::l) a w:=by
 unfold wpListIn
 rw [if_pos hw]
 refine⟨fun _ _=>trivial, ?_⟩
 rw [Oper.semAt_eq _ _ _ hd];exact h
theorem u9{P:Program}{r:Option Nat}{all:Array Oper}{Q:Exit→Act→World→Prop}{o:Oper}{l:List Oper}{a:Act}{w:World}(hw:jK o (yielded all a.tmps)=false)
  (h:wpListIn (FR r) 0 P all Q l (a.put o.dst undef) w):wpListIn (FR r) 0 P all Q (o::l) a w:=by
 unfold wpListIn
 rw [if_neg (by rw [hw];simp)]
 exact⟨fun _ _=>trivial,h⟩
def WP(P:Program)(w0:World)(n0 N:Nat)(r:Option Nat)(it:KI)(Q:bU)(env:du)(S:List aH):Prop :=
 ∀ ι ψ w a,cO w0 ι ψ S w→fT ι ψ N env a→it.wp P r (lz w0 n0 N ι ψ Q) a w
inductive TI where
 | it (i:KI)
 | blk (id:Nat)
def aX(P:Program)(w0:World)(n0 N:Nat)(r:Option Nat):List TI→bU→bU
 | [],Q=>Q
 | .it i::k,Q=>fun x env S=>match x with
  | .normal=>WP P w0 n0 N r i (aX P w0 n0 N r k Q) env S
  | x=>aX P w0 n0 N r k Q x env S
 | .blk id::k,Q=>fun x env S=>match x with
  | .exit j=>if j=id then aX P w0 n0 N r k Q .normal env S else aX P w0 n0 N r k Q (.exit j) env S
  | x=>aX P w0 n0 N r k Q x env S
section
variable {P:Program}{w0:World}{n0 N:Nat}{r:Option Nat}{Q:bU}{k:List TI}{env:du}{S:List aH}
theorem dW.take{ι ι':List Pl}{ψ ψ':eo}(h:dW ι ψ ι' ψ')(n:Nat):dW (ι.take n) ψ ι' ψ' :=
 ⟨fun i p hp=>h.pl i p (by rw [bc] at hp;split at hp;exact hp;cases hp),h.psi⟩
theorem dW.chain{ι ι' ι'':List Pl}{ψ ψ' ψ'':eo}{n:Nat}(h:dW (ι.take n) ψ ι' ψ')(h2:dW (ι'.take n) ψ' ι'' ψ''):dW (ι.take n) ψ ι'' ψ'':=by
 refine⟨fun i p hp=>?_,eo.le_trans h.psi h2.psi⟩
 have hi:i<n:=by have:=(af.1 hp).1;simp at this;omega
 obtain⟨p1,h1,hb1,hg1,he1⟩:=h.pl i p hp
 obtain⟨p2,h2,hb2,hg2,he2⟩:=h2.pl i p1 (by rw [bc,if_pos hi];exact h1)
 refine⟨p2,h2,hb2.trans hb1,fc hg1 hg2,fun e=>?_⟩
 have e1:p.gen=p1.gen:=ω
 have e2:p1.gen=p2.gen:=ω
 rw [he2 e2,he1 e1]
theorem lz.chain{ι ι':List Pl}{ψ ψ':eo}{e:Exit}{a:Act}{w:World}(h:dW (ι.take n0) ψ ι' ψ')(hp:lz w0 n0 N ι' ψ' Q e a w):lz w0 n0 N ι ψ Q e a w:=by
 obtain⟨ι2,ψ2,x,env,S,h1,h2,h3,h4,h5⟩:=hp
 exact⟨ι2,ψ2,x,env,S,h.chain h1,h2,h3,h4,h5⟩
theorem lz.here{ι:List Pl}{ψ:eo}{e:Exit}{a:Act}{w:World}{x:AX}(hR:cO w0 ι ψ S w)(hE:fT ι ψ N env a)(hx:XR ι ψ x e)(hq:Q x env S):lz w0 n0 N ι ψ Q e a w :=
 ⟨ι,ψ,x,env,S,(dW.refl ι ψ).take n0,hR,hE,hx,hq⟩
theorem eA(h:aX P w0 n0 N r k Q .normal env S):aX P w0 n0 N r (.it (.code .skip)::k) Q .normal env S :=
 fun _ _ _ _ hR hE=>wpIn_skip (lz.here hR hE (x:=.normal) trivial h)
theorem eB{id:Nat}(h:aX P w0 n0 N r k Q (.exit id) env S):aX P w0 n0 N r (.it (.code (.exit id))::k) Q .normal env S :=
 fun _ _ _ _ hR hE=>wpIn_exit (lz.here hR hE (x:=.exit id) rfl h)
theorem fY(h:aX P w0 n0 N r k Q .ret env S):aX P w0 n0 N r (.it (.code .ret)::k) Q .normal env S :=
 fun _ _ _ _ hR hE=>wpIn_ret (lz.here hR hE (x:=.ret) trivial h)
theorem fX{c d:Code}(h:aX P w0 n0 N r (.it (.code c)::.it (.code d)::k) Q .normal env S):aX P w0 n0 N r (.it (.code (.seq c d))::k) Q .normal env S:=by
 intro ι ψ w a hR hE
 refine wpIn_seq (wpIn_mono (h ι ψ w a hR hE) fun e a' w' hp=>?_)
 obtain⟨ι',ψ',x,env',S',h1,h2,h3,h4,h5⟩:=hp
 have h40:=h4
 cases x with
 | normal =>
  cases e<;>simp only [XR] at h4
  exact wpIn_mono (h5 ι' ψ' w' a' h2 h3) fun e2 a2 w2 hp2=>hp2.chain h1
 | _ =>
  cases e<;>simp only [XR] at h4<;>exact⟨ι',ψ',_,env',S',h1,h2,h3,h40,h5⟩
theorem yL{c:Operand}{d e:Code}{t:Bool}(hc:bo w0 env c=.bool t)(h:aX P w0 n0 N r (.it (.code (if t then d else e))::k) Q .normal env S):aX P w0 n0 N r (.it (.code (.cond c d e))::k) Q .normal env S:=by
 intro ι ψ w a hR hE
 have:=hE.eval hR c
 rw [hc] at this
 exact wpIn_cond this.bool_inv (h ι ψ w a hR hE)
theorem dC{id:Nat}{c:Code}(h:aX P w0 n0 N r (.it (.code c)::.blk id::k) Q .normal env S):aX P w0 n0 N r (.it (.code (.block id c))::k) Q .normal env S:=by
 intro ι ψ w a hR hE
 refine wpIn_block (wpIn_mono (h ι ψ w a hR hE) fun e a' w' hp=>?_)
 obtain⟨ι',ψ',x,env',S',h1,h2,h3,h4,h5⟩:=hp
 have h40:=h4
 cases x with
 | exit j =>
  cases e<;>simp only [XR] at h4
  subst h4
  simp only [aX] at h5
  simp only [Exit.inBlock]
  split at h5
  ·next hj=>rw [if_pos hj];exact⟨ι',ψ',.normal,env',S',h1,h2,h3,trivial,h5⟩
  ·next hj=>rw [if_neg hj];exact⟨ι',ψ',.exit j,env',S',h1,h2,h3,rfl,h5⟩
 | _ =>
  cases e<;>simp only [XR] at h4<;>exact⟨ι',ψ',_,env',S',h1,h2,h3,h40,h5⟩
theorem Ae{c:Code}{ι:List Pl}{ψ:eo}{w:World}{a:Act}(h:aX P w0 n0 N r (.it (.code c)::.it (.lp c)::k) Q .normal env S)(hR:cO w0 ι ψ S w)(hE:fT ι ψ N env a) :
  c.wpIn (FR r) 0 P (Exit.then (LW P r (lz w0 n0 N ι ψ (aX P w0 n0 N r k Q)) c) (lz w0 n0 N ι ψ (aX P w0 n0 N r k Q))) a w:=by
 refine wpIn_mono (h ι ψ w a hR hE) fun e a' w' hp=>?_
 obtain⟨ι',ψ',x,env',S',h1,h2,h3,h4,h5⟩:=hp
 have h40:=h4
 cases x with
 | normal =>
  cases e<;>simp only [XR] at h4
  exact LW.mono (h5 ι' ψ' w' a' h2 h3) fun e2 a2 w2 hp2=>hp2.chain h1
 | _ =>
  cases e<;>simp only [XR] at h4<;>exact⟨ι',ψ',_,env',S',h1,h2,h3,h40,h5⟩
theorem gn{c:Code}(h:aX P w0 n0 N r (.it (.code c)::.it (.lp c)::k) Q .normal env S):aX P w0 n0 N r (.it (.lp c)::k) Q .normal env S :=
 fun _ _ _ _ hR hE=>LW.head (Ae h hR hE)
theorem cS{c:Code}(h:aX P w0 n0 N r (.it (.code c)::.it (.lp c)::k) Q .normal env S):aX P w0 n0 N r (.it (.code (.loop c))::k) Q .normal env S :=
 fun _ _ _ _ hR hE=>LW.loop (Ae h hR hE)
theorem cK{id:Nat}{ops:Array Oper}(h:aX P w0 n0 N r (.it (.ops ops ops.toList)::k) Q .normal env S):aX P w0 n0 N r (.it (.code (.region id ops false))::k) Q .normal env S :=
 fun ι ψ w a hR hE=>wpIn_region_list (h ι ψ w a hR hE)
theorem b8{all:Array Oper}(h:aX P w0 n0 N r k Q .normal env S):aX P w0 n0 N r (.it (.ops all [])::k) Q .normal env S :=
 fun _ _ _ _ hR hE=>lz.here hR hE (x:=.normal) trivial h
def putA(env:du)(d:Option Nat)(v:AV):du :=
 match d with
 | some t=>eY env t v
 | none=>env
def ce(all:Array Oper)(env:du)(o:Oper):Option Bool :=
 match o.guard with
 | none=>some true
 | some (j,want)=>match all[j]? with
  | some oj=>match oj.dst with
   | some d=>match env d with
    | .bool b=>some (b==want)
    | .tup []=>some false
    | _=>none
   | none=>none
  | none=>none
def eV(N:Nat):Option Nat→Bool
 | some d=>decide (d<N)
 | none=>true
theorem fT.putA{ι:List Pl}{ψ:eo}{a:Act}{d:Option Nat}{v:AV}{c:Value}(h:fT ι ψ N env a)(hv:VR ι ψ v c)(hd:eV N d=true):fT ι ψ N (putA env d v) (a.put d c):=by
 cases d with
 | none=>exact h
 | some t=>exact h.put hv (by simpa [eV] using hd)
theorem da{ι:List Pl}{ψ:eo}{all:Array Oper}{o:Oper}{a:Act}{b:Bool}(hE:fT ι ψ N env a)(h:ce all env o=some b):jK o (yielded all a.tmps)=b:=by
 unfold ce at h
 unfold jK
 cases hg:o.guard with
 | none=>simp [hg] at h;exact h.symm
 | some p =>
  obtain⟨j,want⟩:=p
  simp only [hg] at h ⊢
  split at h
  ·next oj hj =>
   split at h
   ·next d hd =>
    split at h
    ·next b' hb =>
     simp at h;subst h
     have ht:=hE.tmp d
     rw [hb] at ht
     have ht:=ht.bool_inv
     have hlt:d<a.tmps.size:=by
      refine wC fun hge=>?_
      rw [aC,dg hge] at ht
      cases ht
     have hgt:a.tmps[d]? = some (.bool b'):=by
      rw [aC,bm hlt] at ht
      simp at ht
      rw [bm hlt,ht]
     simp [yielded,hj,hd,hgt]
    ·next hb =>
     simp at h;subst h
     have ht:=hE.tmp d
     rw [hb] at ht
     generalize hc:a.tmps.getD d undef=c at ht
     cases ht with
     | tup _ vs hl _ =>
      have hy:yielded all a.tmps j=none:=by
       simp only [yielded,hj,hd,Jl]
       rw [aC] at hc
       cases hq:a.tmps[d]? with
       | none=>rfl
       | some q=>rw [hq] at hc;simp at hc;subst hc;rfl
      simp [hy]
    ·cases h
   ·cases h
  ·cases h
theorem dM{all:Array Oper}{o:Oper}{l:List Oper}{v:AV}{S':List aH}(hg:ce all env o=some true)(hs:ew P S (bo w0 env) o.op=some (v,S'))(hd:eV N o.dst=true)
  (h:aX P w0 n0 N r (.it (.ops all l)::k) Q .normal (putA env o.dst v) S'):aX P w0 n0 N r (.it (.ops all (o::l))::k) Q .normal env S:=by
 intro ι ψ w a hR hE
 obtain⟨ι',ψ',w',nx,cv,h1,h2,h3,h4,h5⟩:=mI hR (fun x=>hE.eval hR x) hs
 have hw:=da hE hg
 refine ej hw (fun c hc=>by rw [hc] at hs;simp [ew,fZ] at hs) ?_
 have hnext:wpListIn (FR r) 0 P all (lz w0 n0 N ι ψ (aX P w0 n0 N r k Q)) l (a.put o.dst cv) w' :=
  KI.mono (it:=.ops all l) (h ι' ψ' w' _ h4 ((hE.mono h3).putA h5 hd)) fun e a2 w2 hp=>hp.chain (h3.take n0)
 rw [h1]
 rcases h2 with rfl|⟨rfl,rfl⟩
 ·exact hnext
 ·exact hnext
theorem bL{all:Array Oper}{o:Oper}{l:List Oper}(hg:ce all env o=some false)(hd:eV N o.dst=true)
  (h:aX P w0 n0 N r (.it (.ops all l)::k) Q .normal (putA env o.dst (.tup [])) S):aX P w0 n0 N r (.it (.ops all (o::l))::k) Q .normal env S:=by
 intro ι ψ w a hR hE
 have hw:=da hE hg
 refine u9 hw ?_
 exact h ι ψ w _ hR (hE.putA (.tup _ _ rfl χ) hd)
def ao(P:Program)(w0:World)(f:FuncId)(args:List AV)(S:List aH)(R:gL→List aH→Prop):Prop :=
 (∀ (a:Array Value) (w:World),(callFunc f a).run P w=.ok (.enter f a) w) ∧
 ∀ ι ψ w (cargs:Array Value),cO w0 ι ψ S w→args.length=cargs.size→(∀ (j:Nat) (x:AV) (c:Value),args[j]? = some x→cargs[j]? = some c→VR ι ψ x c) →
  Calls P f cargs w fun e w'=>∃ ι' ψ' out S',dW ι ψ ι' ψ'∧cO w0 ι' ψ' S' w'∧nf ι' ψ' out e∧R out S'
theorem ao.mono{f:FuncId}{args:List AV}{R R':gL→List aH→Prop}(h:ao P w0 f args S R)(hr:∀ o S',R o S'→R' o S'):ao P w0 f args S R' :=
 ⟨h.1,fun ι ψ w cargs hR hl hv=>(h.2 ι ψ w cargs hR hl hv).mono fun _ _ ⟨ι',ψ',out,S',h1,h2,h3,h4⟩=>⟨ι',ψ',out,S',h1,h2,h3,hr _ _ h4⟩⟩
def aU(P:Program)(w0:World)(n0 N:Nat)(r:Option Nat)(all:Array Oper)(l:List Oper)(k:List TI)(Q:bU)(env:du)(dst:Option Nat):gL→List aH→Prop
 | .ret v,S=>aX P w0 n0 N r (.it (.ops all l)::k) Q .normal (putA env dst v) S
 | .panic v,S=>aX P w0 n0 N r k Q (.panic v) env S
def dH(S:List aH)(a:Nat):List aH :=
 match S[a]? with
 | some (.arr e sz _ g els)=>S.set a (.arr e sz els.length g els)
 | some (.mp false es)=>S.set a (.mp true es)
 | _=>S
def zu(S:List aH)(a:Nat):Bool :=
 match S[a]? with
 | some (.arr _ _ fz _ els)=>fz==els.length
 | some (.mp fz _)=>fz
 | _=>false
theorem ku{ι:List Pl}{ψ:eo}{w:World}(h:cO w0 ι ψ S w)(a:Nat):∃ ψ',ψ.le ψ'∧cO w0 ι ψ' (dH S a) w:=by
 unfold dH
 split
 ·next e sz fz g els hS=>exact h.share hS
 ·next es hS=>exact h.freezeM hS
 ·exact⟨ψ,eo.le_refl _,h⟩
theorem jr{ι:List Pl}{w:World}:∀ (l:List Nat) (S:List aH) (ψ:eo),cO w0 ι ψ S w→∃ ψ',ψ.le ψ'∧cO w0 ι ψ' (l.foldl dH S) w
 | [],_,ψ,h=>⟨ψ,eo.le_refl _,h⟩
 | a::l,S,_,h=>by
  obtain⟨ψ1,h1,h2⟩:=ku h a
  obtain⟨ψ2,h3,h4⟩:=jr l _ ψ1 h2
  exact⟨ψ2,eo.le_trans h1 h3,h4⟩
theorem kS{ι:List Pl}{ψ:eo}{w:World}(h:cO w0 ι ψ S w):zW w ι ψ S (zu S):=by
 intro a pl B hfa hB hpl
 cases B with
 | cells cs ty=>simp [zu,hB] at hfa
 | arr e sz fz g els =>
  simp [zu,hB] at hfa
  intro kb j hk hj
  obtain⟨⟨hgen,hpsz⟩,hsize,hpos,hfz,⟨xs,hown,hxs⟩,_⟩:=h.blk a _ pl hB hpl
  obtain⟨_,v,hv,_,hro⟩:=hxs j _ (ap (show j<(ei els).length by rw [dZ hsize];exact hj))
  rw [hro (by rw [hfa];exact hj) kb hk]
  have:=hown.cells (g:=kb) hk j v hv
  rw [Addr.add_lit,bG] at this;exact this.symm
 | mp fz es =>
  simp [zu,hB] at hfa
  subst hfa
  obtain⟨h0,hn,⟨me,ck,l,h1,h2,h3,h4,h5⟩,h6⟩:=h.blk a _ pl hB hpl
  exact⟨me,ck,h1,by simpa using h5⟩
 | loop st pend N tm ps asg body=>trivial
 | mit cur rest=>trivial
 | obj o=>trivial
 | dead=>trivial
theorem Jq{all:Array Oper}{o:Oper}{l:List Oper}{fop:Operand}{args:Array Operand}{tys:Array TypeId}{f:FuncId}{first cap:List AV}(sh:List Nat)
  (hg:ce all env o=some true) (ho:o.op=.call ⟨.value fop,args,tys⟩) (hf:bo w0 env fop=.fn (.func f) first cap) (hd:eV N o.dst=true)
  (h:ao P w0 f ((first++args.toList.map (bo w0 env)++cap).map (conv (sh.foldl dH S) (zu (sh.foldl dH S)) 4)) (sh.foldl dH S) (aU P w0 n0 N r all l k Q env o.dst)) :
  aX P w0 n0 N r (.it (.ops all (o::l))::k) Q .normal env S:=by
 intro ι ψ w a hR hE
 have hw:=da hE hg
 refine ej hw (fun c hc=>by rw [hc] at ho;cases ho) ?_
 obtain⟨ψ1,hle,hR1⟩:=jr (w0:=w0) sh S ψ hR
 have hE1:fT ι ψ1 N env a:=hE.mono ⟨(dW.refl ι ψ).pl,hle⟩
 have hfr:=kS hR1
 have hvf:=hE1.eval hR1 fop
 rw [hf] at hvf
 generalize hcf:a.eval fop=cf at hvf
 cases hvf with
 | fn _ _ _ vf vc hl1 hl2 h1 h2 =>
  have hres:(execOp a.eval o).run P w=.ok (.enter f (vf++args.map a.eval++vc)) w:=by
   simp [execOp,ho,resolve,hcf,Deferred.ofValue,invoke,h.1]
  rw [hres]
  refine⟨fun h=>sZ r h,oB (r:=r) ?_⟩
  refine(h.2 ι ψ1 w (vf++args.map a.eval++vc) hR1 (by simp [hl1,hl2]) ?_).mono ?_
  ·intro j x c hx hc
   rw [aJ,aL] at hx
   obtain⟨y,hy,rfl⟩:=hx
   refine jk hR1 (eo.le_refl _) hfr 4 y c ?_
   have hc':(vf.toList++args.toList.map a.eval++vc.toList)[j]? = some c:=by
    rw [← bu] at hc
    simpa using hc
   by_cases hj1:j<first.length
   ·rw [aP,au hj1] at hy
    rw [aP,au κ] at hc'
    exact h1 j y c hy (by simpa using hc')
   ·by_cases hj2:j<first.length+args.size
    ·rw [aP,aA ω,au κ] at hy
     rw [aP,aA κ,au κ] at hc'
     simp only [fk,← hl1,aJ,aL] at hy hc'
     obtain⟨z,hz,rfl⟩:=hy
     obtain⟨z',hz',rfl⟩:=hc'
     rw [hz] at hz';cases hz'
     exact hE1.eval hR1 z
    ·rw [aA κ] at hy
     rw [aA κ] at hc'
     simp only [ah,bi,fk,← hl1] at hy hc'
     exact h2 _ y c hy (by simpa using hc')
  ·rintro e w' ⟨ι',ψ',out,S',e1,e2,e3,e4⟩
   have hx:dW ι ψ ι' ψ':=(show dW ι ψ ι ψ1 from ⟨(dW.refl ι ψ).pl,hle⟩).trans e1
   cases out with
   | ret v =>
    cases e<;>simp only [nf] at e3
    exact KI.mono (it:=.ops all l) (e4 ι' ψ' w' _ e2 ((hE1.mono e1).putA e3 hd)) fun e a2 w2 hp=>hp.chain (hx.take n0)
   | panic v =>
    cases e<;>simp only [nf] at e3
    exact⟨ι',ψ',.panic v,env,S',hx.take n0,e2,hE1.mono e1,e3,e4⟩
theorem dy{all:Array Oper}{o:Oper}{l:List Oper}{x:Operand}{t:TypeId}{v:AV}(hg:ce all env o=some true)(ho:o.op=.panic x)(hx:bo w0 env x=.ifc t v)
  (h:aX P w0 n0 N r k Q (.panic (.ifc t v)) env S):aX P w0 n0 N r (.it (.ops all (o::l))::k) Q .normal env S:=by
 intro ι ψ w a hR hE
 have hw:=da hE hg
 refine ej hw (fun c hc=>by rw [hc] at ho;cases ho) ?_
 have hv:=hE.eval hR x
 rw [hx] at hv
 have hv0:=hv
 generalize hc:a.eval x=c at hv
 cases hv with
 | ifc _ _ c' hc' =>
  have hres:(execOp a.eval o).run P w=.halt (.panic (.iface t c')) w:=by
   simp [execOp,ho,hc,Instr.panic]
  rw [hres]
  exact⟨ι,ψ,.panic (.ifc t v),env,S,(dW.refl ι ψ).take n0,hR,hE,⟨_,rfl,by rw [hc] at hv0;exact hv0⟩,h⟩
theorem CI{i:KI}(n:Nat)(env':du)(hn:n0≤n)(hds:env' DS=env DS)(he:∀ t,env' t=.junk∨(env' t=env t∧(env t).lt n=true))
  (hS:∀ (j:Nat) (B:aH),j<n→S[j]? = some B→match B with
   | .cells cs _=>ltL n cs=true
   | .arr _ _ _ _ els=>ltL n els=true
   | .obj _=>True
   | .loop _ _ _ tm _ _ _=>tm.all (fun p=>p.2.lt n)=true
   | .mp _ es=>nB n es=true
   | .mit cur es=>nB n es=true∧∀ e,cur=some e→e.1.lt n=true∧e.2.lt n=true
   | .dead=>True)
  (h:aX P w0 n0 N r (.it i::k) Q .normal env' (S.take n)):aX P w0 n0 N r (.it i::k) Q .normal env S:=by
 intro ι ψ w a hR hE
 obtain⟨ψ',hle,_,hR'⟩:=hR.leave n hS
 have hE':fT (ι.take n) ψ' N env' a:=by
  have tk:∀ t,(env t).lt n=true→∀ c,VR ι ψ (env t) c→VR (ι.take n) ψ' (env t) c:=fun t ht c hc=>(hc.mono ⟨(dW.refl ι ψ).pl,hle⟩).take ht
  refine⟨hE.size,hE.bound, ?_,fun t=>?_⟩
  ·obtain⟨l,vs,h1,h2,h3,h4⟩:=hE.defers
   have hlt:ltL n l=true:=by
    rcases he DS with h5|⟨_,h5⟩
    ·rw [hds,h1] at h5;cases h5
    ·rw [h1] at h5;exact h5
   exact⟨l,vs,hds.trans h1,h2,fun j x v hx hv=>((h3 j x v hx hv).mono ⟨(dW.refl ι ψ).pl,hle⟩).take (c_.1 hlt x (ax hx)),h4⟩
  rcases he t with h1|⟨h1,h2⟩
  ·rw [h1];exact .junk _
  ·rw [h1]
   exact((hE.tmp t).mono ⟨(dW.refl ι ψ).pl,hle⟩).take h2
 refine KI.mono (h _ _ w a hR' hE') fun e a2 w2 hp=>?_
 obtain⟨ι2,ψ2,x,env2,S2,h1,h2,h3,h4,h5⟩:=hp
 refine⟨ι2,ψ2,x,env2,S2,⟨fun j p hj=>?_,eo.le_trans hle h1.psi⟩,h2,h3,h4,h5⟩
 refine h1.pl j p ?_
 rw [yA,Nat.min_eq_left hn];exact hj
theorem ij{i:KI}{t:Nat}(e:TypeId)(sz:Nat)(ht:env t=.snil)(hpos:0<sz)
  (h:aX P w0 n0 N r (.it i::k) Q .normal (eY env t (.sown S.length 0 0)) (S++[.arr e sz 0 0 []])):aX P w0 n0 N r (.it i::k) Q .normal env S:=by
 intro ι ψ w a hR hE
 have hth:=hR.thaw e sz hpos
 have hx:=dW.push ι ψ ⟨0,0,.slice none 0 0,sz⟩
 have hE':fT (ι++[⟨0,0,.slice none 0 0,sz⟩]) ψ N (eY env t (.sown S.length 0 0)) a:=by
  have htd:t≠DS:=fun e=>by
   obtain⟨l,vs,h1,_⟩:=hE.defers
   rw [e,h1] at ht;cases ht
  refine⟨hE.size,hE.bound, ?_,fun s=>?_⟩
  ·obtain⟨l,vs,h1,h2,h3,h4⟩:=hE.defers
   exact⟨l,vs,by rw [eY,if_neg (Ne.symm htd)];exact h1,h2,fun j x v hx' hv=>(h3 j x v hx' hv).mono hx,h4⟩
  simp only [eY]
  split
  ·next hs =>
   subst hs
   have hv:=hE.tmp s
   rw [ht] at hv
   generalize hc:a.tmps.getD s undef=c at hv
   cases hv
   exact .sown _ _ _ _ _ ⟨0,0,.slice none 0 0,sz⟩ (by rw [← hR.len];simp) (ba _) (fun _=>rfl)
  ·exact(hE.tmp s).mono hx
 exact KI.mono (h _ _ w a hth hE') fun e a2 w2 hp=>hp.chain (hx.take n0)
def vu(P:Program)(env:du)(S:List aH):ResultVar→Option AV
 | .tmp t=>some (env t)
 | .cell a t=>uv P S t (env a)
def gr(P:Program)(env:du)(S:List aH):List ResultVar→Option (List AV)
 | []=>some []
 | r::rs=>match vu P env S r,gr P env S rs with
  | some v,some vs=>some (v::vs)
  | _,_=>none
def de:List AV→AV
 | [v]=>v
 | vs=>.tup vs
end
abbrev Rt:=gL→List aH→Prop
end Go.Fen
namespace Go.Fen
open Go.RowKit
def aH.ltB(n:Nat):aH→Bool
 | .cells cs _=>ltL n cs
 | .arr _ _ _ _ els=>ltL n els
 | .obj _=>true
 | .loop _ _ _ tm _ _ _=>tm.all (fun p=>p.2.lt n)
 | .mp _ es=>nB n es
 | .mit cur es=>nB n es&&(match cur with
  | some e=>e.1.lt n&&e.2.lt n
  | none=>true)
 | .dead=>true
theorem sB{n:Nat}{cur:Option (AV × AV)}{es:List (AV × AV)}(h:(aH.mit cur es).ltB n=true):nB n es=true∧∀ e,cur=some e→e.1.lt n=true∧e.2.lt n=true:=by
 simp only [aH.ltB,aq] at h
 refine⟨h.1, ?_⟩
 rintro e rfl
 simpa using h.2
def fV(n:Nat)(S0 S:List aH):Prop:=∀ (j:Nat) (B:aH),j<n→S[j]? = some B→S0[j]? = some B∨B.ltB n=true
theorem iH(S0 L:List aH):fV S0.length S0 (S0++L):=by
 intro j B hj hB
 rw [au hj] at hB
 exact .inl hB
theorem vK(S0:List aH):fV S0.length S0 S0:=fun _ _ _ h=>.inl h
def fa:List AV→List aH→Option (List aH)
 | [],S=>some S
 | .own m _::ms,S=>match S[m]? with
  | some (.obj (.deferred (some [])))=>fa ms (S.set m (.obj (.deferred none)))
  | _=>none
 | _,_=>none
def jV(P:Program)(F:Func)(S0:List aH)(R:gL→List aH→Prop):bU
 | .normal,env,S | .ret,env,S=>∃ ms S1 vs,env DS=.dfr ms∧fa ms S=some S1∧gr P env S1 F.results.toList=some vs∧fV S0.length S0 S1 ∧
   (conv S1 (fun a=>decide (S0.length≤a)) 4 (de vs)).lt S0.length=true∧R (.ret (conv S1 (fun a=>decide (S0.length≤a)) 4 (de vs))) (S1.take S0.length)
 | .panic v,env,S=>∃ ms S1,env DS=.dfr ms∧fa ms S=some S1∧fV S0.length S0 S1∧(conv S1 (fun a=>decide (S0.length≤a)) 4 v).lt S0.length=true∧R (.panic (conv S1 (fun a=>decide (S0.length≤a)) 4 v)) (S1.take S0.length)
 | _,_,_=>False
def dE(args:List AV):du:=fun t=>if t=DS then .dfr [] else (args[t]?).getD .junk
section
variable {P:Program}{w0 w:World}{ι:List Pl}{ψ:eo}{S:List aH}
theorem sD{es l:List (AV × AV)}{me:List MapEntry}(hp:l.Perm es)(h:rq ι ψ l me):nB ι.length es=true:=by
 refine e_.2 fun x hx=>?_
 obtain⟨i,hi⟩:=aV (hp.mem_iff.2 hx)
 have hlt:i<me.length:=by rw [← h.1];exact(af.1 hi).1
 have:=h.2 i x me[i] hi (by simp [hlt])
 exact⟨this.1.lt_len,this.2.lt_len⟩
theorem cO.ltB(h:cO w0 ι ψ S w){j:Nat}{B:aH}(hB:S[j]? = some B):B.ltB S.length=true:=by
 obtain⟨pl,hpl,hR⟩:=h.get hB
 rw [← h.len]
 cases B with
 | cells cs ty =>
  obtain⟨_,⟨c,T,_,_,hv⟩,_⟩:=hR
  refine c_.2 fun x hx=>?_
  obtain⟨i,hi⟩:=aV hx
  obtain⟨_,v,_,hr⟩:=hv i x hi
  exact hr.lt_len
 | arr e sz fz g els =>
  obtain⟨_,hsz,_,_,⟨xs,_,hxs⟩,_⟩:=hR
  refine c_.2 fun x hx=>?_
  obtain⟨i,hi⟩:=aV hx
  have cell:∀ (j:Nat) (y:AV),x.cells[j]? = some y→y.lt ι.length=true:=fun j y hy=>by
   obtain⟨_,v,_,hr,_⟩:=hxs _ y (kA hsz hi hy)
   exact hr.lt_len
  cases x with
  | agg cs=>exact c_.2 fun y hy=>by obtain⟨j,hj⟩:=aV hy;exact cell j y hj
  | _=>exact cell 0 _ rfl
 | obj o=>rfl
 | loop st pend N tm ps asg body =>
  obtain⟨_,⟨fn,vs,d,_,h2,h3⟩,_⟩:=hR
  exact aD.2 fun p hp=>(h3 p hp).lt_len
 | mp fz es =>
  obtain⟨_,hn,⟨me,c,l,h1,h2,h3,h4,h5⟩,_⟩:=hR
  exact sD h3 h4
 | mit cur rest =>
  obtain⟨_,h1,_⟩:=hR
  rcases h1 with⟨_,rfl,rfl⟩|⟨mb,ck,me,seen,l,k1,k2,k4,k5,k6⟩
  ·rfl
  ·simp only [aH.ltB,aq]
   refine⟨sD k4 k5, ?_⟩
   cases cur with
   | none=>rfl
   | some e =>
    obtain⟨b,m,q1,q2,q3,q4⟩:=k6 e rfl
    simp only [aq]
    exact⟨q3.lt_len,q4.lt_len⟩
 | dead=>rfl
theorem mL(h:cO w0 ι ψ S w){N:Nat}{env:du}{a:Act}(hE:fT ι ψ N env a):∀ (rs:List ResultVar) (vs:List AV),gr P env S rs=some vs →
  ∃ cs:List Value,(rs.mapM (m:=Sem) fun r=>match r with
   | .tmp t=>pure (a.tmps.getD t undef)
   | .cell ad t=>do loadVar t (← asAddr (a.tmps.getD ad undef))).run P w=.ok cs w∧vs.length=cs.length∧∀ (j:Nat) (x:AV) (c:Value),vs[j]? = some x→cs[j]? = some c→VR ι ψ x c:=by
 intro rs
 induction rs with
 | nil=>intro vs hv;simp [gr] at hv;subst hv;exact⟨[],χ,rfl,χ⟩
 | cons r rs ih =>
  intro vs hv
  simp only [gr] at hv
  split at hv
  ·next v vs' hr hrs =>
   simp at hv;subst hv
   obtain⟨cs,h1,h2,h3⟩:=ih vs' hrs
   have key:∃ c,(match r with
     | .tmp t=>(pure (a.tmps.getD t undef):Sem Value)
     | .cell ad t=>do loadVar t (← asAddr (a.tmps.getD ad undef))).run P w=.ok c w∧VR ι ψ v c:=by
    cases r with
    | tmp t=>simp [vu] at hr;subst hr;exact⟨_,rfl,hE.tmp t⟩
    | cell ad t =>
     simp only [vu] at hr
     obtain⟨c,k1,k2⟩:=qW (P:=P) h (hE.tmp ad) hr
     refine⟨c, ?_,k2⟩
     show (do loadVar t (← asAddr (a.tmps.getD ad undef)):Sem Value).run P w=.ok c w
     generalize a.tmps.getD ad undef=p at k1 ⊢
     cases p with
     | pointer p=>cases p with
      | some p=>simpa [np,eF,asAddr] using k1
      | none=>simp [np,eF] at k1
     | _=>simp [np,eF] at k1
   obtain⟨c,k1,k2⟩:=key
   refine⟨c::cs, ?_,by simp [h2],fun j x c' hx hc=>?_⟩
   ·simp only [List.mapM_cons,co,k1,cA,h1,gp]
   ·cases j with
    | zero=>simp at hx hc;subst hx hc;exact k2
    | succ j=>exact h3 j x c' (by simpa using hx) (by simpa using hc)
  ·cases hv
def bH(S:List aH):Prop:=∀ (j:Nat) (B:aH),S[j]? = some B→B.ltB S.length=true
theorem cO.putObj(h:cO w0 ι ψ S w){m:Nat}{o o':Obj}{pl:Pl}(hi:S[m]? = some (.obj o))(hpl:ι[m]? = some pl)(ho':o'.isCells=false):cO w0 ι ψ (S.set m (.obj o')) (w.putObj pl.blk o'):=by
 obtain⟨h0,h1,h2,h3,h4⟩:=h.blk m _ pl hi hpl
 have hset:ι.set m pl=ι:=gB hpl
 have hoth:∀ k,k≠pl.blk→(w.putObj pl.blk o').heap[k]? = w.heap[k]?:=fun k hk=>World.putObj_heap_other hk
 have key:=h.update (w':=w.putObj pl.blk o') (ψ':=ψ) (B':=.obj o') (pl':=pl) hi hpl ⟨rfl,rfl,rfl,χ,fun k hk=>hoth k ω⟩ (fun k hk _=>hoth k (fun e=>hk (by simp [aH.at,e]))) (by rw [hset];exact dW.refl _ _) (by
  rw [hset]
  exact⟨h0,ez (eD h1),(fun e=>by rw [ho'] at e;cases e),h3,h4⟩) (fun k hk=>.inl (by simpa [aH.at] using hk)) (fun b o v e=>.inl ⟨e,fun hk=>by
   simp [aH.at] at hk;subst hk;rw [h3 o] at e;cases e⟩) rfl
 rw [hset] at key;exact key
theorem kQ{F:Fence}{n:Nat}{fn:Func}{tmps:Array Value}{R:Ending→World→Prop}{u:FrameMode}(hu:u≠.run):∀ (ms:List AV) (vs:List Value) (S S1:List aH) (w:World),fa ms S=some S1→ms.length=vs.length →
  (∀ (j:Nat) (x:AV) (v:Value),ms[j]? = some x→vs[j]? = some v→VR ι ψ x v)→cO w0 ι ψ S w→(∀ w1,cO w0 ι ψ S1 w1→LeavesInM F n P fn tmps R [] u w1)→LeavesInM F n P fn tmps R (vs.map wX) u w:=by
 intro ms
 induction ms with
 | nil =>
  intro vs S S1 w h hl _ hR hk
  simp only [fa,bl] at h;subst h
  obtain rfl:vs=[]:=kE.1 hl.symm
  exact hk w hR
 | cons x ms ih =>
  intro vs S S1 w h hl hv hR hk
  cases vs with
  | nil=>simp at hl
  | cons v vs =>
   cases x with
   | own m off =>
    simp only [fa] at h
    split at h
    ·next hS =>
     have hx:=hv 0 _ _ rfl rfl
     cases hx with
     | own _ _ pl hpl =>
      obtain⟨h0,h1,h2,h3,h4⟩:=hR.blk m _ pl hS hpl
      refine⟨hu,.inl ⟨pl.blk,_,rfl,run_takeDeferred h1, ?_⟩⟩
      exact ih vs _ S1 _ h (by simpa using hl) (fun j x v hx hv'=>hv (j+1) x v hx hv') (hR.putObj hS hpl rfl) hk
    ·cases h
   | _=>simp [fa] at h
theorem enter{f:FuncId}{F:Func}{c:Code}{args:List AV}{R:gL→List aH→Prop}(hf:P.funcs[f]? = some F)(hb:F.body=some c)(hname:(F.name == "runtime.NumGoroutine")=false)(hargs:args.length≤F.ntmps)(hbd:F.ntmps≤DS)
  (h0:bH S→aX P w0 S.length F.ntmps none [.it (.code c)] (jV P F S R) .normal (dE args) S):ao P w0 f args S R:=by
 refine⟨fun a w=>by simp only [callFunc,co,run_program,cA,hf,hname,hb];rfl,fun ι ψ w cargs hR hl hv=>?_⟩
 have h:=h0 fun j B hB=>hR.ltB hB
 refine(callsIn_wide (n:=0)).1 ?_
 refine callsIn_of_wp_marks (F:=Fence.wide) hf hb trivial ?_
 have hE:fT ι ψ F.ntmps (dE args) { tmps:=cargs++bT (F.ntmps - cargs.size) undef,defers:=[] }:=by
  refine⟨κ,hbd,⟨[],[],by simp [dE],rfl,χ,rfl⟩,fun t=>?_⟩
  simp only [dE]
  split
  ·next ht =>
   have:(cargs++bT (F.ntmps - cargs.size) undef).getD t undef=undef:=by
    rw [aC,dg κ];rfl
   rw [this]
   exact .dfr [] [] rfl χ
  ·by_cases ht:t<args.length
   ·have e1:args[t]? = some args[t]:=ap ht
    have ht':t<cargs.size:=ω
    have e2:cargs[t]? = some cargs[t]:=bm ht'
    rw [e1,aC,lD ht',e2]
    exact hv t _ _ e1 e2
   ·rw [bR ω]
    exact .junk _
 refine wpIn_mono (h ι ψ w _ hR hE) fun e a' w' hp=>?_
 obtain⟨ι',ψ',x,env,S',h1,h2,h3,h4,h5⟩:=hp
 have hext:dW ι ψ ι' ψ':=by rw [← hR.len,bC] at h1;exact h1
 obtain⟨ds,dvs,d1,d2,d3,d4⟩:=h3.defers
 have leave:∀ S1 w1 v c,cO w0 ι' ψ' S1 w1→fV S.length S S1→VR ι' ψ' v c→(conv S1 (fun a=>decide (S.length≤a)) 4 v).lt S.length=true →
   ∃ ι'' ψ'',dW ι ψ ι'' ψ''∧cO w0 ι'' ψ'' (S1.take S.length) w1∧VR ι'' ψ'' (conv S1 (fun a=>decide (S.length≤a)) 4 v) c:=by
  intro S1 w1 v c h2 ho hv hlt
  obtain⟨ψ'',k1,k2,k3⟩:=h2.leave S.length (fun j B hj hB=>by
   have:B.ltB S.length=true:=(ho j B hj hB).elim (fun e=>hR.ltB e) id
   cases B<;>first|exact this|(exact sB this)|trivial)
  refine⟨ι'.take S.length,ψ'',⟨fun i p hp=>?_,eo.le_trans hext.psi k1⟩,k3,(jk h2 k1 k2 4 v c hv).take hlt⟩
  obtain⟨p',e1,e2⟩:=hext.pl i p hp
  have:i<S.length:=by rw [← hR.len];exact(af.1 hp).1
  exact⟨p',by rw [bc,if_pos this];exact e1,e2⟩
 have ret:∀ (h5:∃ ms S1 vs,env DS=.dfr ms∧fa ms S'=some S1∧gr P env S1 F.results.toList=some vs∧fV S.length S S1 ∧
   (conv S1 (fun a=>decide (S.length≤a)) 4 (de vs)).lt S.length=true∧R (.ret (conv S1 (fun a=>decide (S.length≤a)) 4 (de vs))) (S1.take S.length)),
   LeavesInM Fence.wide 0 P F a'.tmps (fun e w'=>∃ ι' ψ' out S',dW ι ψ ι' ψ'∧cO w0 ι' ψ' S' w'∧nf ι' ψ' out e∧R out S') a'.defers .returning w':=by
  rintro⟨ms,S1,vs,q1,q2,r1,r2,r3,r4⟩
  rw [q1] at d1;cases d1
  rw [d4]
  refine kQ χ ds dvs S' S1 w' q2 d2 d3 h2 fun w1 hR1=>?_
  obtain⟨cs,q1,q2,q3⟩:=mL (P:=P) hR1 h3 _ vs r1
  have hrun:(results F a'.tmps).run P w1=.ok (if h:cs.toArray.size=1 then cs.toArray[0] else .tuple cs.toArray) w1:=by
   unfold results
   rw [yJ]
   simp only [co,Sem.run_map]
   erw [q1]
   rfl
  have hv:VR ι' ψ' (de vs) (if h:cs.toArray.size=1 then cs.toArray[0] else .tuple cs.toArray):=by
   match vs,cs,q2,q3 with
   | [],[],_,_=>exact .tup _ _ rfl χ
   | [v],[c],_,q3=>simpa [de] using q3 0 v c rfl rfl
   | v1::v2::vs,c1::c2::cs,q2,q3 =>
    simp only [de,iM,aB]
    rw [dif_neg ω]
    exact .tup _ _ (by simpa using q2) (fun j x c hx hc=>q3 j x c hx (by simpa using hc))
   | [],_::_,q2,_=>simp at q2
   | [_],[],q2,_=>simp at q2
   | [_],_::_::_,q2,_=>simp at q2
   | _::_::_,[],q2,_=>simp at q2
   | _::_::_,[_],q2,_=>simp at q2
  obtain⟨ι'',ψ'',e1,e2,e3⟩:=leave S1 w1 _ _ hR1 r2 hv r3
  exact⟨_,hrun,ι'',ψ'',.ret _,_,e1,e2,e3,r4⟩
 cases x with
 | normal=>cases e<;>simp only [XR] at h4;exact ret h5
 | ret=>cases e<;>simp only [XR] at h4;exact ret h5
 | exit id=>exact h5.elim
 | goto l=>exact h5.elim
 | panic v =>
  cases e<;>simp only [XR] at h4
  obtain⟨c,rfl,hv⟩:=h4
  obtain⟨ms,S1,q1,q2,r2,r3,r4⟩:=h5
  rw [q1] at d1;cases d1
  show LeavesInM _ _ _ _ _ _ a'.defers _ _
  rw [d4]
  refine kQ χ ds dvs S' S1 w' q2 d2 d3 h2 fun w1 hR1=>?_
  obtain⟨ι'',ψ'',e1,e2,e3⟩:=leave S1 w1 _ _ hR1 r2 hv r3
  exact⟨ι'',ψ'',.panic _,_,e1,e2,⟨c,rfl,e3⟩,r4⟩
end
mutual
theorem AV.lt_mono{n m:Nat}(h:n≤m):∀ x:AV,x.lt n=true→x.lt m=true
 | .own ..,hx=>by simp only [AV.lt,decide_eq_true_eq] at hx ⊢;omega
 | .oel ..,hx=>by simp only [AV.lt,decide_eq_true_eq] at hx ⊢;omega
 | .sown ..,hx=>by simp only [AV.lt,decide_eq_true_eq] at hx ⊢;omega
 | .mown ..,hx=>by simp only [AV.lt,decide_eq_true_eq] at hx ⊢;omega
 | .yld _,hx=>by simp only [AV.lt,decide_eq_true_eq] at hx ⊢;omega
 | .pro cs,hx=>h_ h cs hx
 | .sval _ els,hx=>h_ h els hx
 | .mval es,hx=>pg h es hx
 | .fn _ a c,hx=>by
  simp only [AV.lt,aq] at hx ⊢
  exact⟨h_ h a hx.1,h_ h c hx.2⟩
 | .ifc _ v,hx=>AV.lt_mono h v hx
 | .agg cs,hx=>h_ h cs hx
 | .tup cs,hx=>h_ h cs hx
 | .dfr cs,hx=>h_ h cs hx
 | .int ..,_=>rfl
 | .bool _,_=>rfl
 | .str _,_=>rfl
 | .nilp,_=>rfl
 | .mnil,_=>rfl
 | .snil,_=>rfl
 | .fnil,_=>rfl
 | .inil,_=>rfl
 | .val _,_=>rfl
 | .junk,_=>rfl
theorem h_{n m:Nat}(h:n≤m):∀ l:List AV,ltL n l=true→ltL m l=true
 | [],_=>rfl
 | x::r,hx=>by
  simp only [ltL,aq] at hx ⊢
  exact⟨AV.lt_mono h x hx.1,h_ h r hx.2⟩
theorem pg{n m:Nat}(h:n≤m):∀ l:List (AV × AV),nB n l=true→nB m l=true
 | [],_=>rfl
 | (a,b)::r,hx=>by
  simp only [nB,aq] at hx ⊢
  exact⟨⟨AV.lt_mono h a hx.1.1,AV.lt_mono h b hx.1.2⟩,pg h r hx.2⟩
end
theorem aH.ltB_mono{n m:Nat}(h:n≤m){B:aH}(hB:B.ltB n=true):B.ltB m=true:=by
 cases B with
 | cells cs ty=>exact h_ h cs hB
 | arr e sz fz g els=>exact h_ h els hB
 | obj o=>rfl
 | loop st pend N tm ps asg body=>exact aD.2 fun p hp=>AV.lt_mono h p.2 (aD.1 hB p hp)
 | mp fz es=>exact pg h es hB
 | mit cur es =>
  simp only [aH.ltB,aq] at hB ⊢
  refine⟨pg h es hB.1, ?_⟩
  cases cur with
  | none=>rfl
  | some e =>
   have:=hB.2
   simp only [aq] at this ⊢
   exact⟨AV.lt_mono h e.1 this.1,AV.lt_mono h e.2 this.2⟩
 | dead=>rfl
section
variable {P:Program}{w0:World}{n0 N:Nat}{r:Option Nat}{Q:bU}{k:List TI}{env:du}{S:List aH}
theorem cD{c:Code}{α:Type}(I:α→du→List aH→Prop)(μ:α→Nat)(a0:α)(h0:I a0 env S)
  (step:∀ (a:α) (env:du) (S:List aH),I a env S→(∀ (a':α) (env':du) (S':List aH),μ a'<μ a→I a' env' S'→aX P w0 n0 N r (.it (.lp c)::k) Q .normal env' S') →
   aX P w0 n0 N r (.it (.code c)::.it (.lp c)::k) Q .normal env S):aX P w0 n0 N r (.it (.code (.loop c))::k) Q .normal env S:=by
 have key:∀ (m:Nat) (a:α) (env:du) (S:List aH),μ a=m→I a env S→aX P w0 n0 N r (.it (.code c)::.it (.lp c)::k) Q .normal env S:=by
  intro m
  induction m using Nat.strongRecOn with
  | _ m ih =>
   intro a env S hm hI
   exact step a env S hI fun a' env' S' hlt hI'=>gn (ih (μ a') (hm▸hlt) a' env' S' rfl hI')
 exact cS (key _ a0 env S rfl h0)
def iJ(L:List Nat)(env:du):du:=fun t=>if t=DS then env t else if L.contains t then env t else .junk
theorem bX{i:KI}{S0 L:List aH}(hO:bH S0)(m:Nat)(sl:List Nat)(hn:n0=S0.length)(hds:(env DS).lt (S0.length+m)=true)(hsl:sl.all (fun t=>(env t).lt (S0.length+m))=true)(hL:(L.take m).all (fun B=>B.ltB (S0.length+m))=true)
  (h:aX P w0 n0 N r (.it i::k) Q .normal (iJ sl env) (S0++L.take m)):aX P w0 n0 N r (.it i::k) Q .normal env (S0++L):=by
 refine CI (S0.length+m) (iJ sl env) ω (by simp [iJ]) (fun t=>?_) (fun j B hj hB=>?_) ?_
 ·unfold iJ
  split
  ·next ht=>subst ht;exact .inr ⟨rfl,hds⟩
  split
  ·next ht=>exact .inr ⟨rfl,aD.1 hsl t (by simpa using ht)⟩
  ·exact .inl rfl
 ·have:B.ltB (S0.length+m)=true:=by
   by_cases hj0:j<S0.length
   ·rw [au hj0] at hB
    exact aH.ltB_mono ω (hO j B hB)
   ·rw [aA ω] at hB
    refine aD.1 hL B (ax (i:=j - S0.length) ?_)
    rw [bc,if_pos ω];exact hB
  cases B<;>first|exact this|(exact sB this)|trivial
 ·rw [List.take_append,dJ ω,CD]
  exact h
end
end Go.Fen
namespace Go.Fen
theorem AO(S L:List aH)(i:Nat):(S++L)[S.length+i]? = L[i]?:=by
 rw [aA ω];congr 1;omega
theorem Ex(S L:List aH):(S++L)[S.length]? = L[0]?:=AO S L 0
theorem Ao(S L:List aH)(i:Nat)(B:aH):(S++L).set (S.length+i) B=S++L.set i B:=by
 rw [eI _ _ ω];congr 2;omega
theorem Dc(S L:List aH)(B:aH):(S++L).set S.length B=S++L.set 0 B:=Ao S L 0 B
theorem nJ(S L M:List aH):S++L++M=S++(L++M):=aP S L M
theorem HE(S L:List aH):(S++L).length=S.length+L.length:=ah
theorem C6(S L:List aH):(S++L).take S.length=S:=yB
theorem Bn(S:List aH):S.take S.length=S:=bC
theorem KQ(n i:Nat):decide (n≤n+i)=true:=χ
theorem HT(n:Nat):decide (n≤n)=true:=χ
theorem KO(n i:Nat):decide (n+i<n)=false:=χ
theorem Hw(n i j:Nat):decide (n+i<n+j)=decide (i<j):=χ
theorem Hu(n j:Nat):decide (n<n+j)=decide (0<j):=χ
theorem zp(L:List Nat)(env:du)(t:Nat)(h:L.contains t=true):iJ L env t=env t:=by unfold iJ;simp only [h,if_true,ite_self]
theorem zq(L:List Nat)(env:du):iJ L env 1000000=env 1000000:=by unfold iJ;rw [if_pos rfl]
theorem zi(n:Nat):(0≤(n:Int))=True:=χ
theorem Bk(n:Nat):(n:Int).toNat=n:=Int.toNat_natCast n
theorem CT(env:du)(t:Nat)(v:AV):eY env t v t=v:=by simp [eY]
theorem Bf(env:du)(t s:Nat)(v:AV)(h:(s==t)=false):eY env t v s=env s:=by
 simp at h;simp [eY,h]
section
variable {P:Program}{w0:World}{n0 N:Nat}{r:Option Nat}{Q:bU}{k:List TI}{env:du}{S:List aH}
theorem b_{i:KI}{id:Nat}(h:aX P w0 n0 N r k Q (.exit id) env S):aX P w0 n0 N r (.it i::k) Q (.exit id) env S:=h
theorem cM{i:KI}(h:aX P w0 n0 N r k Q .ret env S):aX P w0 n0 N r (.it i::k) Q .ret env S:=h
theorem bM{i:KI}{v:AV}(h:aX P w0 n0 N r k Q (.panic v) env S):aX P w0 n0 N r (.it i::k) Q (.panic v) env S:=h
theorem bN{id:Nat}(h:aX P w0 n0 N r k Q .normal env S):aX P w0 n0 N r (.blk id::k) Q (.exit id) env S:=by
 simp only [aX,if_true];exact h
theorem bw{id j:Nat}(hne:(j==id)=false)(h:aX P w0 n0 N r k Q (.exit j) env S):aX P w0 n0 N r (.blk id::k) Q (.exit j) env S:=by
 simp only [aX];rw [if_neg (by simpa using hne)];exact h
theorem gh{id:Nat}(h:aX P w0 n0 N r k Q .normal env S):aX P w0 n0 N r (.blk id::k) Q .normal env S:=h
theorem b9{id:Nat}(h:aX P w0 n0 N r k Q .ret env S):aX P w0 n0 N r (.blk id::k) Q .ret env S:=h
theorem bv{id:Nat}{v:AV}(h:aX P w0 n0 N r k Q (.panic v) env S):aX P w0 n0 N r (.blk id::k) Q (.panic v) env S:=h
theorem gg{x:AX}(h:Q x env S):aX P w0 n0 N r [] Q x env S:=h
theorem dz{c:Operand}{d e:Code}(hc:bo w0 env c=.bool true)(h:aX P w0 n0 N r (.it (.code d)::k) Q .normal env S):aX P w0 n0 N r (.it (.code (.cond c d e))::k) Q .normal env S:=yL hc h
theorem dB{c:Operand}{d e:Code}(hc:bo w0 env c=.bool false)(h:aX P w0 n0 N r (.it (.code e)::k) Q .normal env S):aX P w0 n0 N r (.it (.code (.cond c d e))::k) Q .normal env S:=yL hc h
theorem cL{all:Array Oper}{o:Oper}{l:List Oper}{b:Bool}(_h0:o.guard.isSome=true)(_hg:ce all env o=some b)(h1:b=true→aX P w0 n0 N r (.it (.ops all (o::l))::k) Q .normal env S)(h2:b=false→aX P w0 n0 N r (.it (.ops all (o::l))::k) Q .normal env S) :
  aX P w0 n0 N r (.it (.ops all (o::l))::k) Q .normal env S:=by
 cases b
 ·exact h2 rfl
 ·exact h1 rfl
theorem dA{c:Operand}{d e:Code}{t:Bool}(hc:bo w0 env c=.bool t)(h1:t=true→aX P w0 n0 N r (.it (.code d)::k) Q .normal env S)(h2:t=false→aX P w0 n0 N r (.it (.code e)::k) Q .normal env S) :
  aX P w0 n0 N r (.it (.code (.cond c d e))::k) Q .normal env S:=by
 refine yL hc ?_
 cases t
 ·exact h2 rfl
 ·exact h1 rfl
theorem dx{all:Array Oper}{o:Oper}{l:List Oper}{v:AV}{S':List aH}(hg:o.guard=none)(hs:ew P S (bo w0 env) o.op=some (v,S'))(hd:eV N o.dst=true)
  (h:aX P w0 n0 N r (.it (.ops all l)::k) Q .normal (putA env o.dst v) S'):aX P w0 n0 N r (.it (.ops all (o::l))::k) Q .normal env S :=
 dM (by simp [ce,hg]) hs hd h
def Fo(S:List aH)(l:List AV):List AV:=l.map (conv S (zu S) 4)
theorem Ip(S:List aH):Fo S []=[]:=rfl
theorem EH(S:List aH)(x:AV)(l:List AV):Fo S (x::l)=conv S (zu S) 4 x::Fo S l:=rfl
theorem zJ(S:List aH)(a b:List AV):Fo S (a++b)=Fo S a++Fo S b:=aM
theorem df{all:Array Oper}{o:Oper}{l:List Oper}{fop:Operand}{args:Array Operand}{tys:Array TypeId}{f:FuncId}{first cap A:List AV}{S1:List aH}(sh:List Nat)
  (hg:ce all env o=some true) (ho:o.op=.call ⟨.value fop,args,tys⟩) (hf:bo w0 env fop=.fn (.func f) first cap) (hd:eV N o.dst=true)
  (hS:sh.foldl dH S=S1) (hA:Fo S1 (first++args.toList.map (bo w0 env)++cap)=A)
  (h:ao P w0 f A S1 (aU P w0 n0 N r all l k Q env o.dst)) :
  aX P w0 n0 N r (.it (.ops all (o::l))::k) Q .normal env S:=by
 subst hS hA
 exact Jq sh hg ho hf hd h
theorem uJ{F:Func}{S0 S1 S2:List aH}{R:gL→List aH→Prop}{ms vs:List AV}{v:AV}(h0:env DS=.dfr ms)(h01:fa ms S=some S2)(h1:gr P env S2 F.results.toList=some vs)(h2:fV S0.length S0 S2)
  (h3:conv S2 (fun a=>decide (S0.length≤a)) 4 (de vs)=v) (h4:v.lt S0.length=true) (h5:S2.take S0.length=S1) (h:R (.ret v) S1):jV P F S0 R .ret env S:=by
 subst h3 h5
 exact⟨ms,S2,vs,h0,h01,h1,h2,h4,h⟩
theorem ML{F:Func}{S0 S1 S2:List aH}{R:gL→List aH→Prop}{ms vs:List AV}{v:AV}(h0:env DS=.dfr ms)(h01:fa ms S=some S2)(h1:gr P env S2 F.results.toList=some vs)(h2:fV S0.length S0 S2)
  (h3:conv S2 (fun a=>decide (S0.length≤a)) 4 (de vs)=v) (h4:v.lt S0.length=true) (h5:S2.take S0.length=S1) (h:R (.ret v) S1):jV P F S0 R .normal env S:=uJ h0 h01 h1 h2 h3 h4 h5 h
theorem Ia{F:Func}{S0 S1 S2:List aH}{R:gL→List aH→Prop}{ms:List AV}{v v':AV}(h0:env DS=.dfr ms)(h01:fa ms S=some S2)(h2:fV S0.length S0 S2)
  (h3:conv S2 (fun a=>decide (S0.length≤a)) 4 v=v') (h4:v'.lt S0.length=true) (h5:S2.take S0.length=S1) (h:R (.panic v') S1):jV P F S0 R (.panic v) env S:=by
 subst h3 h5
 exact⟨ms,S2,h0,h01,h2,h4,h⟩
end
theorem Cg(b:Bool):(b==true)=b:=by cases b<;>rfl
theorem zP(b:Bool):(b==false) = !b:=by cases b<;>rfl
theorem BQ(n:Nat)(cs:List AV)(ty:Option TypeId):(aH.cells cs ty).ltB n=ltL n cs:=rfl
theorem AJ(n:Nat)(e:TypeId)(a b c:Nat)(els:List AV):(aH.arr e a b c els).ltB n=ltL n els:=rfl
theorem Hx(n:Nat)(o:Obj):(aH.obj o).ltB n=true:=rfl
theorem Eh(n:Nat)(st:LoopState)(pend:Option Code)(N:Nat)(tm:List (Nat × AV))(ps:Array Tmp)(asg body:Code):(aH.loop st pend N tm ps asg body).ltB n=tm.all (fun p=>p.2.lt n):=rfl
theorem KP(n:Nat)(fz:Bool)(es:List (AV × AV)):(aH.mp fz es).ltB n=nB n es:=rfl
theorem Eg(n:Nat)(es:List (AV × AV)):(aH.mit none es).ltB n=(nB n es&&true):=rfl
theorem Ef(n:Nat)(e:AV × AV)(es:List (AV × AV)):(aH.mit (some e) es).ltB n=(nB n es&&(e.1.lt n&&e.2.lt n)):=rfl
theorem Ei(n:Nat):aH.dead.ltB n=true:=rfl
theorem rk(S0 L:List aH):fV S0.length S0 (S0++L)=True:=eq_true (iH S0 L)
theorem tT(S0:List aH):fV S0.length S0 S0=True:=eq_true (vK S0)
attribute [go_sem] zi Bk aJ bi zp zq List.contains_cons List.contains_nil Bool.or_true Bool.true_or fI wG BQ AJ Hx Eh KP Eg Ef Ei Cg zP rk tT
theorem sE(n:Nat)(a b:List AV):ltL n (a++b)=(ltL n a&&ltL n b):=by
 induction a with
 | nil=>simp [ltL]
 | cons x a ih=>simp [ltL,ih,yE]
theorem tQ(a b:List AV):plainL (a++b)=(plainL a&&plainL b):=by
 induction a with
 | nil=>simp [plainL]
 | cons x a ih=>simp [plainL,ih,yE]
attribute [go_sem] Ip EH zJ sE tQ List.all_append fa DS ew fZ bo js rJ pj AP fh kw eS kR tV sI m3 o_ eC jZ vz xI sR lH qP Option.orElse_some Option.orElse_none ld List.find?_nil fS gv putA ce eV uv xw mg wd mO wa vX ow vm mq Iz nD rC vp Ig CA qZ pk Nf tj BU gz HQ pG mY gI wr nw
 rK rW cI kV lO vi jv AV.cells AV.leaf AV.isJunk Fm oe dE gr vu de conv AV.plain plainL AV.lt ltL aU dH zu
 AO Ex Ao Dc nJ HE C6 Bn KQ HT KO Hw Hu CT Bf gA bne_iff_ne beq_self_eq_true bne_self_eq_false
 List.getElem?_cons_zero List.getElem?_cons_succ List.set_cons_zero List.set_cons_succ aB aI fQ gu aG
 cQ dw aO aR List.take_nil List.drop_nil List.head?_cons al aj tL List.all_nil g9 List.foldl_nil
 dp kj Fs Option.getD_none List.getElem?_nil
 cG bP bO cr cq bQ l8 bG bf and_self and_true true_and true_or or_true false_or or_false false_and and_false
 ite_true ite_false if_true if_false eq_self bj fH decide_true decide_false aZ Cq Cr List.isEmpty_cons List.isEmpty_nil
end Go.Fen
namespace Go.Fen
open Go.RowKit
def wI:AV→List Nat
 | .own a _=>[a]
 | .oel a _ _ _=>[a]
 | .sown a _ _=>[a]
 | .mown a=>[a]
 | _=>[]
def mm(ρ:Operand→AV):Op→List Nat
 | .load _ a=>wI (ρ a)
 | .convert _ _ x=>wI (ρ x)
 | .indexAddr _ x _=>wI (ρ x)
 | .lookup _ x _ _=>wI (ρ x)
 | .entry x=>wI (ρ x)
 | .call c=>c.args.toList.flatMap fun x=>wI (ρ x)
 | _=>[]
theorem zM{P:Program}{S S':List aH}{s d:TypeId}{x:AV}(h:∀ a∈wI x,S'[a]? = S[a]?):tj P S' s d x=tj P S s d x:=by
 unfold tj
 cases hs:P.underlying s with
 | none=>rfl
 | some a =>
  cases hd:P.underlying d with
  | none=>cases a<;>rfl
  | some b =>
   cases x with
   | sown u g n =>
    have e:=h u (by simp [wI])
    cases b<;>first|rfl|(cases a<;>first|rfl|(simp only [e]))
   | own u o =>
    have e:=h u (by simp [wI])
    cases o<;>cases a<;>first|rfl|(cases b<;>first|rfl|(simp only [e]))
   | _=>cases b<;>first|rfl|(cases a<;>rfl)
theorem xO{P:Program}{S S':List aH}{t:TypeId}{x i:AV}(h:∀ a g n,x=.sown a g n→S'[a]? = S[a]?):ow P S' t x i=ow P S t x i:=by
 unfold ow
 cases hs:P.underlying t with
 | none=>rfl
 | some a =>
  cases x with
  | sown u g n =>
   have e:=h u g n rfl
   cases a<;>first|rfl|(cases i<;>first|rfl|(simp only [e]))
  | _=>cases a<;>first|rfl|(cases i<;>rfl)
theorem vU{P:Program}{S S':List aH}{t:TypeId}{x i:AV}{ok:Bool}(h:∀ a,x=.mown a→S'[a]? = S[a]?):js P S' t x i ok=js P S t x i ok:=by
 have:m3 S' x=m3 S x:=by
  cases x<;>simp only [m3]
  rw [h _ rfl]
 unfold js
 rw [this]
theorem y8{P:Program}{S S':List aH}{ρ:Operand→AV}{op:Op}(h:∀ a∈mm ρ op,S'[a]? = S[a]?):fZ P S' ρ op=fZ P S ρ op:=by
 cases op with
 | load t a =>
  simp only [fZ,uv]
  simp only [mm] at h
  cases hx:ρ a<;>simp only [hx,wI,a_,forall_eq] at h<;>simp only [xw]
  ·rw [h]
  ·rw [h]
 | convert s d x =>
  simp only [fZ]
  exact zM fun a ha=>h a (by simpa [mm] using ha)
 | indexAddr t x i =>
  simp only [fZ]
  exact xO fun a g n e=>h a (by simp [mm,e,wI])
 | lookup t x i ok =>
  simp only [fZ]
  exact vU fun a e=>h a (by simp [mm,e,wI])
 | entry x =>
  simp only [fZ]
  simp only [mm] at h
  cases hx:ρ x<;>simp only [sR]
  next a o =>
   cases o
   ·have:=h a (by simp [hx,wI])
    simp only [this]
   ·rfl
 | call c =>
  obtain⟨callee,args,ts⟩:=c
  cases callee with
  | builtin b =>
   simp only [fZ,pG]
   split
   ·next a g n hargs =>
    have hx:∃ y∈args.toList,ρ y=.sown a g n:=by
     have:(AV.sown a g n)∈args.toList.map ρ:=by rw [hargs];simp
     simpa using aN.1 this
    obtain⟨y,hy,hya⟩:=hx
    have:=h a (by simp only [mm,List.mem_flatMap];exact⟨y,hy,by rw [hya];simp [wI]⟩)
    simp only [this]
   ·rfl
   ·next x t hargs hts =>
    have hl:xI S' P t x=xI S P t x:=by
     unfold xI
     cases P.underlying t with
     | none=>rfl
     | some d =>
      cases x with
      | mown a =>
       have hx:∃ y∈args.toList,ρ y=.mown a:=by
        have:(AV.mown a)∈args.toList.map ρ:=by rw [hargs];simp
        simpa using aN.1 this
       obtain⟨y,hy,hya⟩:=hx
       have:=h a (by simp only [mm,List.mem_flatMap];exact⟨y,hy,by rw [hya];simp [wI]⟩)
       cases d<;>first|rfl|simp only [this]
      | _=>cases d<;>rfl
    rw [hl]
   all_goals first|rfl|(simp_all)
  | _=>rfl
 | _=>rfl
def kx:Op→Bool
 | .alloc _ | .box _ _ | .buildSlice _ _ _ | .store _ _ _ | .makeSlice _ _ _ | .makeMap _ _ | .mapUpdate _ _ _ _ | .insert _ _ _ _ | .range _ _=>false
 | .call c=>match c.callee with
  | .builtin .len | .builtin .min | .builtin .max | .builtin .unsafeSliceData=>true
  | _=>false
 | _=>true
theorem oW{P:Program}{S:List aH}{ρ:Operand→AV}{op:Op}(h:kx op=true):ew P S ρ op=(fZ P S ρ op).map (fun v=>(v,S)):=by
 cases op<;>first|rfl|simp [kx] at h|skip
 rename_i c
 obtain⟨callee,args,ts⟩:=c
 cases callee with
 | builtin b=>cases b<;>first|rfl|simp [kx] at h
 | _=>simp [kx] at h
theorem nA{ρ ρ':Operand→AV}{x:Option Operand}(h:∀ y,x=some y→ρ' y=ρ y):x.map ρ'=x.map ρ:=by
 cases x with
 | none=>rfl
 | some y=>simp [h y rfl]
theorem jg{ρ ρ':Operand→AV}{x:List Operand}(h:∀ y∈x,ρ' y=ρ y):x.map ρ'=x.map ρ:=List.map_congr_left h
theorem qS{ρ ρ':Operand→AV}{x:List (Nat × Operand)}(h:∀ y∈x.map (·.2),ρ' y=ρ y):x.map (fun p=>(p.1,ρ' p.2))=x.map (fun p=>(p.1,ρ p.2)) :=
 List.map_congr_left fun p hp=>by rw [h _ (dc hp)]
theorem qO{P:Program}{S:List aH}{ρ ρ':Operand→AV}{op:Op}(h:∀ x∈op.operands,ρ' x=ρ x):fZ P S ρ' op=fZ P S ρ op:=by
 cases op with
 | build t parts=>simp only [fZ];rw [qS fun y hy=>h y (by simpa [bB] using hy)]
 | makeFunc fn first cap =>
  simp only [fZ]
  rw [jg (x:=first.toList) fun y hy=>h y (by simp [bB];exact .inl (by simpa using hy)),jg (x:=cap.toList) fun y hy=>h y (by simp [bB];exact .inr (by simpa using hy))]
 | slice t x lo hi mx =>
  simp only [fZ]
  rw [h x (by simp [bB]),nA (x:=lo) fun y hy=>h y (by simp [bB,hy]),nA (x:=hi) fun y hy=>h y (by simp [bB,hy]),nA (x:=mx) fun y hy=>h y (by simp [bB,hy])]
 | call c =>
  obtain⟨callee,args,ts⟩:=c
  simp only [fZ]
  rw [jg (x:=args.toList) fun y hy=>h y (by simp [bB,Call.operands];exact .inr (by simpa using hy))]
 | _=>simp [bB] at h<;>simp [fZ,h]
theorem kM{P:Program}{S:List aH}{ρ ρ':Operand→AV}{op:Op}(h:∀ x∈op.operands,ρ' x=ρ x):ew P S ρ' op=ew P S ρ op:=by
 cases op with
 | buildSlice t len parts=>simp only [ew];rw [qS fun y hy=>h y (by simpa [bB] using hy)]
 | call c =>
  have hp:=qO (P:=P) (S:=S) h
  obtain⟨callee,args,ts⟩:=c
  have ha:∀ y∈args.toList,ρ' y=ρ y:=fun y hy=>h y (by simp [bB,Call.operands];exact .inr (by simpa using hy))
  simp only [ew,hp]
  split
  ·next s x t tx hs hx =>
   rw [ha s (by rw [hs];simp),ha x (by rw [hs];simp)]
  ·next s x t tx hs hx =>
   rw [ha s (by rw [hs];simp),ha x (by rw [hs];simp)]
  ·rfl
 | alloc t=>rfl
 | box t x=>simp only [ew];rw [h x (by simp [bB])]
 | makeSlice t l c=>simp only [ew];rw [h l (by simp [bB]),h c (by simp [bB])]
 | store t a v=>simp only [ew];rw [h a (by simp [bB]),h v (by simp [bB])]
 | insert t m k v=>simp only [ew];rw [h m (by simp [bB]),h k (by simp [bB]),h v (by simp [bB])]
 | mapUpdate t m k v=>simp only [ew];rw [h m (by simp [bB]),h k (by simp [bB]),h v (by simp [bB])]
 | makeMap t r=>simp only [ew];rw [nA (x:=r) fun y hy=>h y (by simp [bB,hy])]
 | range t x=>simp only [ew];rw [h x (by simp [bB])]
 | _=>simp only [ew];rw [qO h]
theorem zw{ρ ρ':Operand→AV}{op:Op}(h:∀ x∈op.operands,ρ' x=ρ x):mm ρ' op=mm ρ op:=by
 cases op with
 | call c =>
  obtain⟨callee,args,ts⟩:=c
  simp only [mm]
  have:∀ l:List Operand,(∀ y∈l,ρ' y=ρ y)→l.flatMap (fun x=>wI (ρ' x))=l.flatMap (fun x=>wI (ρ x)):=by
   intro l
   induction l with
   | nil=>intro _;rfl
   | cons y l ih=>intro hl;rw [kF,kF,hl y χ,ih fun z hz=>hl z (by simp [hz])]
  exact this _ fun y hy=>h y (by simp [bB,Call.operands];exact .inr (by simpa using hy))
 | _=>first|rfl|(simp [bB] at h;simp [mm,h])
end Go.Fen
namespace Go.Fen
open Go.RowKit
section
variable {P:Program}{w0:World}{n0 N:Nat}{r:Option Nat}{ops:Array Oper}{Q:bU}{k:List TI}{env:du}{S:List aH}
theorem yU(k:List TI)(v:AV):aX P w0 n0 N r k Q (.panic v) env S=Q (.panic v) env S:=by
 induction k with
 | nil=>rfl
 | cons x k ih=>cases x<;>exact ih
def i7(P:Program)(w0:World)(N:Nat)(ops:Array Oper)(Q:bU)(i:Nat)(K:du→List aH→Prop)(env:du)(S:List aH):Prop :=
  ∃ o,ops[i]? = some o∧eV N o.dst=true ∧
    ((ce ops env o=some false∧K (putA env o.dst (.tup [])) S) ∨
     (ce ops env o=some true∧∃ v S',ew P S (bo w0 env) o.op=some (v,S')∧K (putA env o.dst v) S') ∨
     (ce ops env o=some true∧∃ (fop:Operand) (args:Array Operand) (tys:Array TypeId) (f:FuncId) (first cap:List AV) (sh:List Nat),o.op=.call ⟨.value fop,args,tys⟩∧bo w0 env fop=.fn (.func f) first cap ∧
       ao P w0 f ((first++args.toList.map (bo w0 env)++cap).map (conv (sh.foldl dH S) (zu (sh.foldl dH S)) 4)) (sh.foldl dH S)
         (fun out S'=>match out with
           | .ret v=>K (putA env o.dst v) S'
           | .panic v=>Q (.panic v) env S')))
theorem i7.mono{i:Nat}{K K':du→List aH→Prop}(h:i7 P w0 N ops Q i K env S)(hk:∀ env S,K env S→K' env S):i7 P w0 N ops Q i K' env S:=by
 obtain⟨o,h1,h2,h3⟩:=h
 refine⟨o,h1,h2, ?_⟩
 rcases h3 with⟨a,b⟩|⟨a,v,S',b,c⟩|⟨a,fop,args,tys,f,first,cap,sh,b,c,d⟩
 ·exact .inl ⟨a,hk _ _ b⟩
 ·exact .inr (.inl ⟨a,v,S',b,hk _ _ c⟩)
 ·refine .inr (.inr ⟨a,fop,args,tys,f,first,cap,sh,b,c,d.mono fun out S' h=>?_⟩)
  cases out with
  | ret v=>exact hk _ _ h
  | panic v=>exact h
def lk(ops:Array Oper)(j p:Nat):Bool :=
 match ops[j]? with
 | some oj=>!(oj.after.any fun e=>fe .any e&&e.on==p)
 | none=>true
def cJ(ops:Array Oper)(j:Nat):List (Nat × List Nat)→List aH→List aH→Prop
 | [],_,_=>True
 | p::ps,S,S'=>(lk ops j p.1=true→∀ a∈p.2,S'[a]? = S[a]?)∧cJ ops j ps S S'
def dS(P:Program)(w0:World)(n0 N:Nat)(r:Option Nat)(ops:Array Oper)(k:List TI)(Q:bU):Nat→Array Bool→List (Nat × List Nat)→du→List aH→Prop
 | 0,listed,_,env,S=>cu .any ops listed=[]∧aX P w0 n0 N r k Q .normal env S
 | f+1,listed,prot,env,S=>(cu .any ops listed=[]→aX P w0 n0 N r k Q .normal env S) ∧
   ∀ i∈cu .any ops listed,i7 P w0 N ops Q i (fun env' S'=>cJ ops i prot S S'∧dS P w0 n0 N r ops k Q f (listed.setIfInBounds i true) prot env' S') env S
theorem ze{F:Fence}{i:Nat}{K K':Act→World→Prop}{Q Q':Exit→Act→World→Prop}{a:Act}{w:World}(hk:∀ a w,K a w→K' a w)(hq:∀ e a w,Q e a w→Q' e a w)(h:wpOpIn F 0 P ops Q i K a w):wpOpIn F 0 P ops Q' i K' a w:=by
 unfold wpOpIn at *
 split
 ·next ho=>simp only [ho] at h;exact hk _ _ h
 ·next o ho =>
  simp only [ho] at h
  split
  ·next hw=>simp only [hw,if_true] at h;exact⟨h.1,ue hk hq _ h.2⟩
  ·next hw=>simp only [hw] at h;exact⟨h.1,hk _ _ h.2⟩
theorem rd{F:Fence}{Q Q':Exit→Act→World→Prop}(hq:∀ e a w,Q e a w→Q' e a w):∀ (f:Nat) (listed:Array Bool) (a:Act) (w:World),wpAnyIn F 0 P .any ops Q f listed a w→wpAnyIn F 0 P .any ops Q' f listed a w
 | 0,_,_,_,h=>⟨h.1,hq _ _ _ h.2⟩
 | f+1,_,_,_,h=>⟨fun e=>hq _ _ _ (h.1 e),fun i hi=>ze (rd hq f _) hq (h.2 i hi)⟩
theorem Ce{o:Oper}{fop:Operand}{args:Array Operand}{tys:Array TypeId}{f:FuncId}{first cap:List AV}{R:gL→List aH→Prop}{ι:List Pl}{ψ:eo}{a:Act}{w:World}(sh:List Nat)
  (ho:o.op=.call ⟨.value fop,args,tys⟩) (hf:bo w0 env fop=.fn (.func f) first cap)
  (h:ao P w0 f ((first++args.toList.map (bo w0 env)++cap).map (conv (sh.foldl dH S) (zu (sh.foldl dH S)) 4)) (sh.foldl dH S) R)
  (hR:cO w0 ι ψ S w) (hE:fT ι ψ N env a) (K:Act→World→Prop) (QQ:Exit→Act→World→Prop)
  (hk:∀ ι' ψ' w' v cv S',dW ι ψ ι' ψ'→cO w0 ι' ψ' S' w'→VR ι' ψ' v cv→R (.ret v) S'→K (a.put o.dst cv) w')
  (hq:∀ ι' ψ' w' v ch S',dW ι ψ ι' ψ'→cO w0 ι' ψ' S' w'→XR ι' ψ' (.panic v) (.panic ch)→R (.panic v) S'→QQ (.panic ch) a w') :
  o.uponIn (FR r) 0 P a K QQ ((execOp a.eval o).run P w):=by
 obtain⟨ψ1,hle,hR1⟩:=jr (w0:=w0) sh S ψ hR
 have hE1:fT ι ψ1 N env a:=hE.mono ⟨(dW.refl ι ψ).pl,hle⟩
 have hfr:=kS hR1
 have hvf:=hE1.eval hR1 fop
 rw [hf] at hvf
 generalize hcf:a.eval fop=cf at hvf
 cases hvf with
 | fn _ _ _ vf vc hl1 hl2 h1 h2 =>
  have hres:(execOp a.eval o).run P w=.ok (.enter f (vf++args.map a.eval++vc)) w:=by
   simp [execOp,ho,resolve,hcf,Deferred.ofValue,invoke,h.1]
  rw [hres]
  refine⟨fun h=>sZ r h,oB (r:=r) ?_⟩
  refine(h.2 ι ψ1 w (vf++args.map a.eval++vc) hR1 (by simp [hl1,hl2]) ?_).mono ?_
  ·intro j x c hx hc
   rw [aJ,aL] at hx
   obtain⟨y,hy,rfl⟩:=hx
   refine jk hR1 (eo.le_refl _) hfr 4 y c ?_
   have hc':(vf.toList++args.toList.map a.eval++vc.toList)[j]? = some c:=by
    rw [← bu] at hc
    simpa using hc
   by_cases hj1:j<first.length
   ·rw [aP,au hj1] at hy
    rw [aP,au κ] at hc'
    exact h1 j y c hy (by simpa using hc')
   ·by_cases hj2:j<first.length+args.size
    ·rw [aP,aA ω,au κ] at hy
     rw [aP,aA κ,au κ] at hc'
     simp only [fk,← hl1,aJ,aL] at hy hc'
     obtain⟨z,hz,rfl⟩:=hy
     obtain⟨z',hz',rfl⟩:=hc'
     rw [hz] at hz';cases hz'
     exact hE1.eval hR1 z
    ·rw [aA κ] at hy
     rw [aA κ] at hc'
     simp only [ah,bi,fk,← hl1] at hy hc'
     exact h2 _ y c hy (by simpa using hc')
  ·rintro e w' ⟨ι',ψ',out,S',e1,e2,e3,e4⟩
   have hx:dW ι ψ ι' ψ':=(show dW ι ψ ι ψ1 from ⟨(dW.refl ι ψ).pl,hle⟩).trans e1
   cases out with
   | ret v =>
    cases e<;>simp only [nf] at e3
    exact hk ι' ψ' w' v _ S' hx e2 e3 e4
   | panic v =>
    cases e<;>simp only [nf] at e3
    exact hq ι' ψ' w' v _ S' hx e2 e3 e4
theorem BJ{i:Nat}{K:du→List aH→Prop}(h:i7 P w0 N ops Q i K env S){ι:List Pl}{ψ:eo}{a:Act}{w:World}(hR:cO w0 ι ψ S w)(hE:fT ι ψ N env a) :
  wpOpIn (FR r) 0 P ops (lz w0 n0 N ι ψ (aX P w0 n0 N r k Q)) i (fun a' w'=>∃ ι' ψ' env' S',dW ι ψ ι' ψ'∧cO w0 ι' ψ' S' w'∧fT ι' ψ' N env' a'∧K env' S') a w:=by
 obtain⟨o,ho,hd,h⟩:=h
 unfold wpOpIn
 simp only [ho]
 rcases h with⟨hg,hk⟩|⟨hg,v,S',hs,hk⟩|⟨hg,fop,args,tys,f,first,cap,sh,hop,hf,hcall⟩
 ·have hw:=da hE hg
  simp only [hw,aZ,if_false]
  exact⟨fun _ _=>trivial,ι,ψ,_,_,dW.refl _ _,hR,hE.putA (.tup _ _ rfl χ) hd,hk⟩
 ·have hw:=da hE hg
  simp only [hw,if_true]
  refine⟨fun _ _=>trivial, ?_⟩
  rw [Oper.semAt_eq _ _ _ (fun c hc=>by rw [hc] at hs;simp [ew,fZ] at hs)]
  obtain⟨ι',ψ',w',nx,cv,h1,h2,h3,h4,h5⟩:=mI hR (fun x=>hE.eval hR x) hs
  rw [h1]
  have:∃ ι' ψ' env' S',dW ι ψ ι' ψ'∧cO w0 ι' ψ' S' w'∧fT ι' ψ' N env' (a.put o.dst cv)∧K env' S':=⟨ι',ψ',_,S',h3,h4,(hE.mono h3).putA h5 hd,hk⟩
  rcases h2 with rfl|⟨rfl,rfl⟩
  ·exact this
  ·exact this
 ·-- the call goes through the rule for lists
  have hw:=da hE hg
  simp only [hw,if_true]
  refine⟨fun _ _=>trivial, ?_⟩
  rw [Oper.semAt_eq _ _ _ (fun c hc=>by rw [hc] at hop;cases hop)]
  exact Ce (r:=r) sh hop hf hcall hR hE _ _ (fun ι' ψ' w' v cv S' e1 e2 e3 e4=>⟨ι',ψ',_,S',e1,e2,(hE.mono e1).putA e3 hd,e4⟩)
   (fun ι' ψ' w' v ch S' e1 e2 e3 e4=>⟨ι',ψ',.panic v,env,S',e1.take n0,e2,hE.mono e1,e3,by rw [yU];exact e4⟩)
theorem zT:∀ (f:Nat) (listed:Array Bool) (prot:List (Nat × List Nat)) (env:du) (S:List aH),dS P w0 n0 N r ops k Q f listed prot env S→∀ (ι:List Pl) (ψ:eo) (a:Act) (w:World),cO w0 ι ψ S w→fT ι ψ N env a →
  wpAnyIn (FR r) 0 P .any ops (lz w0 n0 N ι ψ (aX P w0 n0 N r k Q)) f listed a w:=by
 intro f
 induction f with
 | zero=>intro listed prot env S h ι ψ a w hR hE;exact⟨h.1,lz.here hR hE (x:=.normal) trivial h.2⟩
 | succ f ih =>
  intro listed prot env S h ι ψ a w hR hE
  refine⟨fun e=>lz.here hR hE (x:=.normal) trivial (h.1 e),fun i hi=>?_⟩
  refine wpOpIn_mono (fun a' w' hk=>?_) (BJ (n0:=n0) (r:=r) (k:=k) (h.2 i hi) hR hE)
  obtain⟨ι',ψ',env',S',e1,e2,e3,_,e4⟩:=hk
  exact rd (fun e a2 w2 hp=>hp.chain (e1.take n0)) f _ _ _ (ih _ prot env' S' e4 ι' ψ' a' w' e2 e3)
theorem Jp{id:Nat}(hm:P.follows .mixedOrders=true)(h:dS P w0 n0 N r ops k Q ops.size (bT ops.size false) [] env S):aX P w0 n0 N r (.it (.code (.region id ops true))::k) Q .normal env S :=
 fun ι ψ w a hR hE=>wpIn_region_any hm (zT _ _ _ _ _ h ι ψ a _ (hR.same_heap rfl rfl rfl rfl) hE)
theorem vE{j:Nat}{p:Nat × List Nat}{ps:List (Nat × List Nat)}{S S':List aH}(h:cJ ops j (p::ps) S S'):cJ ops j ps S S':=h.2
theorem fK{j:Nat}:∀ {ps:List (Nat × List Nat)}{S:List aH},cJ ops j ps S S
 | [],_=>trivial
 | _::_,_=>⟨fun _ _ _=>rfl,fK⟩
theorem fF{p:Nat × List Nat}{ps:List (Nat × List Nat)}:∀ (f:Nat) (listed:Array Bool) (env:du) (S:List aH),dS P w0 n0 N r ops k Q f listed (p::ps) env S→dS P w0 n0 N r ops k Q f listed ps env S
 | 0,_,_,_,h=>h
 | f+1,_,_,_,h=>⟨h.1,fun i hi=>(h.2 i hi).mono fun _ _ ⟨a,b⟩=>⟨vE a,fF f _ _ _ b⟩⟩
theorem B4{d:Option Nat}{v:AV}{x:Operand}(h:∀ t,d=some t→x≠.tmp t):bo w0 (putA env d v) x=bo w0 env x:=by
 cases d with
 | none=>rfl
 | some t =>
  cases x with
  | tmp s =>
   have:s≠t:=fun e=>h t rfl (by rw [e])
   simp [bo,putA,eY,this]
  | _=>rfl
theorem lL{o:Oper}{d:Option Nat}{v:AV}(h:∀ t,d=some t→t∉o.looksAt ops):∀ x∈o.op.operands,bo w0 (putA env d v) x=bo w0 env x:=fun x hx =>
 B4 fun t ht e=>h t ht (by
  subst e
  unfold Oper.looksAt
  refine lA _ (tK.2 ⟨.tmp t,by simpa using hx,rfl⟩))
theorem lR{o:Oper}{d:Option Nat}{v:AV}(h:∀ t,d=some t→t∉o.looksAt ops):ce ops (putA env d v) o=ce ops env o:=by
 unfold ce
 cases hg:o.guard with
 | none=>rfl
 | some p =>
  obtain⟨g,want⟩:=p
  cases ho:ops[g]? with
  | none=>simp [ho]
  | some og =>
   cases hd:og.dst with
   | none=>simp [ho,hd]
   | some s =>
    have:putA env d v s=env s:=by
     cases d with
     | none=>rfl
     | some t =>
      have hne:s≠t:=fun e=>h t rfl (by
       subst e
       unfold Oper.looksAt
       exact dF _ (by simp [hg,ho,hd]))
      simp [putA,eY,hne]
    simp [ho,hd,this]
theorem uo{d e:Option Nat}{v u:AV}(h:∀ t,d=some t→e≠some t):putA (putA env d v) e u=putA (putA env e u) d v:=by
 cases d with
 | none=>rfl
 | some t =>
  cases e with
  | none=>rfl
  | some s =>
   have hne:s≠t:=fun e=>h t rfl (by rw [e])
   funext x
   simp only [putA,eY]
   by_cases h1:x=s
   ·subst h1;simp [hne]
   ·simp [h1]
def pM(w0:World)(P:Program)(ops:Array Oper)(o:Oper)(v:AV)(fp:List Nat)(env:du)(S:List aH):Prop :=
 (ce ops env o=some false∧v=.tup [])∨(ce ops env o=some true∧kx o.op=true∧mm (bo w0 env) o.op=fp∧ew P S (bo w0 env) o.op=some (v,S))
theorem pM.later{o oj:Oper}{v u:AV}{fp:List Nat}{S':List aH}(h:pM w0 P ops o v fp env S)(hap:∀ t,oj.dst=some t→t∉o.looksAt ops)(hS:∀ a∈fp,S'[a]? = S[a]?):pM w0 P ops o v fp (putA env oj.dst u) S':=by
 rcases h with⟨h1,h2⟩|⟨h1,h2,h3,h4⟩
 ·exact .inl ⟨by rw [lR hap];exact h1,h2⟩
 ·have hop:=lL (w0:=w0) (env:=env) (v:=u) hap
  refine .inr ⟨by rw [lR hap];exact h1,h2,by rw [zw hop];exact h3, ?_⟩
  rw [kM hop,oW h2]
  rw [oW h2] at h4
  rw [y8 (S:=S) (S':=S') (by rw [h3];exact hS)]
  cases hp:fZ P S (bo w0 env) o.op with
  | none=>rw [hp] at h4;cases h4
  | some x=>rw [hp] at h4;simp at h4 ⊢;exact h4
theorem GI{d:Option Nat}{v:AV}(hd:eV N d=true)(hN:N≤DS):putA env d v DS=env DS:=by
 cases d with
 | none=>rfl
 | some t =>
  have:t<N:=by simpa [eV] using hd
  simp only [putA,eY]
  rw [if_neg ω]
theorem uT{i:Nat}{oi:Oper}{v:AV}{fp:List Nat}(hi:ops[i]? = some oi)(hd:eV N oi.dst=true)(hN:N≤DS)(hQ:∀ v env env' S,env' DS=env DS→Q (.panic v) env S→Q (.panic v) env' S) :
  ∀ (f:Nat) (listed:Array Bool) (prot:List (Nat × List Nat)) (env:du) (S:List aH),
   (∀ j oj,ops[j]? = some oj→j≠i→listed.getD j true=false→(∀ e∈oj.after,fe .any e=true→e.on≠i)→oi.apart ops oj=true) →
   i∈cu .any ops listed→pM w0 P ops oi v fp env S→dS P w0 n0 N r ops k Q f (listed.setIfInBounds i true) ((i,fp)::prot) (putA env oi.dst v) S→dS P w0 n0 N r ops k Q (f+1) listed prot env S:=by
 intro f
 induction f with
 | zero =>
  intro listed prot env S hfree hr hrd h
  refine⟨fun e=>(by rw [e] at hr;cases hr),fun j hj=>?_⟩
  by_cases hji:j=i
  ·subst hji
   refine⟨oi,hi,hd, ?_⟩
   rcases hrd with⟨h1,h2⟩|⟨h1,h2,h3,h4⟩
   ·subst h2
    exact .inl ⟨h1,fK,fF _ _ _ _ h⟩
   ·exact .inr (.inl ⟨h1,v,S,h4,fK,fF _ _ _ _ h⟩)
  ·have:=ready_mono hj hji
   rw [h.1] at this;cases this
 | succ f ih =>
  intro listed prot env S hfree hr hrd h
  refine⟨fun e=>(by rw [e] at hr;cases hr),fun j hj=>?_⟩
  by_cases hji:j=i
  ·subst hji
   refine⟨oi,hi,hd, ?_⟩
   rcases hrd with⟨h1,h2⟩|⟨h1,h2,h3,h4⟩
   ·subst h2
    exact .inl ⟨h1,fK,fF _ _ _ _ h⟩
   ·exact .inr (.inl ⟨h1,v,S,h4,fK,fF _ _ _ _ h⟩)
  ·obtain⟨hun,oj,hoj,hall⟩:=mem_ready.1 hj
   have hiu:listed.getD i false=false:=by
    have:=(mem_ready.1 hr).1
    simp only [aC] at this ⊢
    cases e:listed[i]? with
    | none=>rfl
    | some b=>rw [e] at this;simpa using this
   have hno:∀ e∈oj.after,fe .any e=true→e.on≠i:=fun e he hb heq=>by
    have:=hall e he hb
    rw [heq,hiu] at this;cases this
   have hap:=hfree j oj hoj hji hun hno
   obtain⟨a1,a2,a3⟩:=Oper.apart_spec hap
   have hrel:lk ops j i=true:=by
    unfold lk
    simp only [hoj]
    simp only [ay,Array.any_eq_false']
    intro e he
    by_cases hb:fe .any e=true
    ·simp [hb,hno e he hb]
    ·simp [hb]
   obtain⟨o,ho,hdj,hcase⟩:=h.2 j (ready_mono hj hji)
   rw [hoj] at ho;cases ho
   have hcomm:(listed.setIfInBounds i true).setIfInBounds j true=(listed.setIfInBounds j true).setIfInBounds i true:=by
    apply ma
    intro m
    simp only [bJ]
    by_cases h1:i=m<;>by_cases h2:j=m<;>simp_all
   have hop:=lL (w0:=w0) (env:=env) (v:=v) a1
   have hgd:=lR (env:=env) (v:=v) a1
   have next:∀ (u:AV) (S':List aH),(cJ ops j ((i,fp)::prot) S S'∧dS P w0 n0 N r ops k Q f ((listed.setIfInBounds i true).setIfInBounds j true) ((i,fp)::prot) (putA (putA env oi.dst v) oj.dst u) S') →
     cJ ops j prot S S'∧dS P w0 n0 N r ops k Q (f+1) (listed.setIfInBounds j true) prot (putA env oj.dst u) S':=by
    rintro u S' ⟨hp,hk⟩
    refine⟨hp.2,ih _ prot _ S' ?_ (ready_mono hr (fun e=>hji e.symm)) (hrd.later a3 (hp.1 hrel)) ?_⟩
    ·intro m om hom hmi hmu hmno
     refine hfree m om hom hmi ?_ hmno
     by_cases hmj:m=j
     ·subst hmj
      simp only [aC,bJ] at hmu ⊢
      by_cases hlt:m<listed.size
      ·simp [hlt] at hmu
      ·simp [hlt] at hmu
     ·rw [getD_set_ne true (fun e=>hmj e.symm)] at hmu;exact hmu
    ·rw [← hcomm,← uo a2];exact hk
   refine⟨oj,hoj,hdj, ?_⟩
   rcases hcase with⟨b1,b2⟩|⟨b1,u,S',b2,b3⟩|⟨b1,fop,args,tys,fn,first,cap,sh,b2,b3,b4⟩
   ·exact .inl ⟨by rw [← hgd];exact b1,next _ _ b2⟩
   ·exact .inr (.inl ⟨by rw [← hgd];exact b1,u,S',by rw [← kM hop];exact b2,next _ _ b3⟩)
   ·have hargs:args.toList.map (bo w0 (putA env oi.dst v))=args.toList.map (bo w0 env):=jg fun y hy=>hop y (by rw [b2];simp [bB,Call.operands];exact .inr (by simpa using hy))
    have hfop:bo w0 (putA env oi.dst v) fop=bo w0 env fop:=hop fop (by rw [b2];simp [bB,Call.operands])
    refine .inr (.inr ⟨by rw [← hgd];exact b1,fop,args,tys,fn,first,cap,sh,b2,by rw [← hfop];exact b3, ?_⟩)
    rw [hargs] at b4
    refine b4.mono fun out S' hk=>?_
    cases out with
    | ret u=>exact next u S' hk
    | panic u=>exact hQ u _ _ _ (GI hd hN).symm hk
end
end Go.Fen
namespace Go.Fen
open Go.RowKit
def qV(ops:Array Oper)(listed:Array Bool):Option Nat :=
 (cu .any ops listed).find? fun i=>(match ops[i]? with
  | some o=>kx o.op
  | none=>false)&&Region.free .any ops listed i
theorem oh{ops:Array Oper}{listed:Array Bool}{i:Nat}(h:qV ops listed=some i):i∈cu .any ops listed∧(∀ o,ops[i]? = some o→kx o.op=true)∧Region.free .any ops listed i=true:=by
 have h1:=oJ h
 have h2:=List.find?_some h
 simp only [aq] at h2
 exact⟨h1,fun o ho=>by rw [ho] at h2;exact h2.1,h2.2⟩
def LF(Q:bU):Prop:=∀ v env env' S,env' DS=env DS→Q (.panic v) env S→Q (.panic v) env' S
theorem kf{P:Program}{F:Func}{S0:List aH}{R:gL→List aH→Prop}:LF (jV P F S0 R):=by
 intro v env env' S he h
 obtain⟨ms,S1,h1,h2⟩:=h
 exact⟨ms,S1,he.trans h1,h2⟩
section
variable {P:Program}{w0:World}{n0 N:Nat}{r:Option Nat}{ops:Array Oper}{Q:bU}{k:List TI}{env:du}{S:List aH}{f:Nat}{listed:Array Bool}{prot:List (Nat × List Nat)}
theorem gy{id n:Nat}(hm:P.follows .mixedOrders=true)(hn:ops.size=n)(h:dS P w0 n0 N r ops k Q n (bT n false) [] env S):aX P w0 n0 N r (.it (.code (.region id ops true))::k) Q .normal env S :=
 Jp hm (by rw [hn];exact h)
theorem zI(hr:cu .any ops listed=[])(h:aX P w0 n0 N r k Q .normal env S):dS P w0 n0 N r ops k Q f listed prot env S:=by
 cases f with
 | zero=>exact⟨hr,h⟩
 | succ f=>exact⟨fun _=>h,fun i hi=>by rw [hr] at hi;cases hi⟩
theorem Lj(i:Nat){oi:Oper}{v:AV}{fp:List Nat}(hn:qV ops listed=some i)(hQ:LF Q)(hN:decide (N≤DS)=true)(hi:ops[i]? = some oi)(hg:ce ops env oi=some true)(hs:ew P S (bo w0 env) oi.op=some (v,S))
  (hd:eV N oi.dst=true) (hfp:mm (bo w0 env) oi.op=fp) (h:dS P w0 n0 N r ops k Q f (listed.setIfInBounds i true) ((i,fp)::prot) (putA env oi.dst v) S):dS P w0 n0 N r ops k Q (f+1) listed prot env S:=by
 obtain⟨h1,h2,h3⟩:=oh hn
 exact uT hi hd (by simpa using hN) hQ f listed prot env S (Fj hi h3) h1 (.inr ⟨hg,h2 _ hi,hfp,hs⟩) h
theorem MO(i:Nat){oi:Oper}(hn:qV ops listed=some i)(hQ:LF Q)(hN:decide (N≤DS)=true)(hi:ops[i]? = some oi)(hg:ce ops env oi=some false)
  (hd:eV N oi.dst=true) (h:dS P w0 n0 N r ops k Q f (listed.setIfInBounds i true) ((i,[])::prot) (putA env oi.dst (.tup [])) S):dS P w0 n0 N r ops k Q (f+1) listed prot env S:=by
 obtain⟨h1,h2,h3⟩:=oh hn
 exact uT hi hd (by simpa using hN) hQ f listed prot env S (Fj hi h3) h1 (.inl ⟨hg,rfl⟩) h
theorem MP(i:Nat)(hr:cu .any ops listed=[i])(h:i7 P w0 N ops Q i (fun env' S'=>cJ ops i prot S S'∧dS P w0 n0 N r ops k Q f (listed.setIfInBounds i true) prot env' S') env S):dS P w0 n0 N r ops k Q (f+1) listed prot env S :=
 ⟨fun e=>(by rw [e] at hr;cases hr),fun j hj=>(by
  rw [hr] at hj
  obtain rfl:j=i:=by simpa using hj
  exact h)⟩
variable {i:Nat}{o:Oper}{K:du→List aH→Prop}
theorem vO{v:AV}{S':List aH}(hi:ops[i]? = some o)(hg:ce ops env o=some true)(hs:ew P S (bo w0 env) o.op=some (v,S'))(hd:eV N o.dst=true)(h:K (putA env o.dst v) S'):i7 P w0 N ops Q i K env S :=
 ⟨o,hi,hd,.inr (.inl ⟨hg,v,S',hs,h⟩)⟩
theorem D7(hi:ops[i]? = some o)(hg:ce ops env o=some false)(hd:eV N o.dst=true)(h:K (putA env o.dst (.tup [])) S):i7 P w0 N ops Q i K env S :=
 ⟨o,hi,hd,.inl ⟨hg,h⟩⟩
def cC(Q:bU)(K:du→List aH→Prop)(env:du)(dst:Option Nat):gL→List aH→Prop
 | .ret v,S'=>K (putA env dst v) S'
 | .panic v,S'=>Q (.panic v) env S'
theorem je{fop:Operand}{args:Array Operand}{tys:Array TypeId}{g:FuncId}{first cap A:List AV}{S1:List aH}(sh:List Nat)(hi:ops[i]? = some o)(hg:ce ops env o=some true)
  (ho:o.op=.call ⟨.value fop,args,tys⟩) (hf:bo w0 env fop=.fn (.func g) first cap) (hd:eV N o.dst=true)
  (hS:sh.foldl dH S=S1) (hA:Fo S1 (first++args.toList.map (bo w0 env)++cap)=A) (h:ao P w0 g A S1 (cC Q K env o.dst)):i7 P w0 N ops Q i K env S:=by
 subst hS hA
 refine⟨o,hi,hd,.inr (.inr ⟨hg,fop,args,tys,g,first,cap,sh,ho,hf,h.mono fun out S' hk=>?_⟩)⟩
 cases out<;>exact hk
theorem za{S S':List aH}(h:K env S'):cJ ops i [] S S'∧K env S':=⟨trivial,h⟩
theorem vF{B:Prop}(h:B):cJ ops i prot S S∧B:=⟨fK,h⟩
theorem DZ{S S':List aH}{B:Prop}(h1:cJ ops i prot S S')(h:B):cJ ops i prot S S'∧B:=⟨h1,h⟩
theorem aw{S S':List aH}:cJ ops i [] S S':=trivial
theorem iG{p:Nat}{S S':List aH}(h:cJ ops i prot S S'):cJ ops i ((p,[])::prot) S S':=⟨fun _ _ ha=>(by cases ha),h⟩
theorem o8{p:Nat × List Nat}{S S':List aH}(hp:lk ops i p.1=false)(h:cJ ops i prot S S'):cJ ops i (p::prot) S S':=⟨fun e=>(by rw [e] at hp;cases hp),h⟩
theorem vI{p a:Nat}{S S':List aH}(ha:S'[a]? = S[a]?)(h:cJ ops i prot S S'):cJ ops i ((p,[a])::prot) S S':=⟨fun _ b hb=>(by
 obtain rfl:b=a:=by simpa using hb
 exact ha),h⟩
end
theorem cO.thawCell{w0 w:World}{ι:List Pl}{ψ:eo}{S:List aH}(h:cO w0 ι ψ S w){a j:Nat}{cs:List AV}{ty:Option TypeId}(e:TypeId)(sz:Nat)(ha:S[a]? = some (.cells cs ty))(hj:cs[j]? = some .snil)(hpos:0<sz) :
  cO w0 (ι++[⟨0,0,.slice none 0 0,sz⟩]) ψ ((S++[aH.arr e sz 0 0 []]).set a (.cells (cs.set j (.sown S.length 0 0)) ty)) w:=by
 have hth:=h.thaw e sz hpos
 have hlt:a<S.length:=(af.1 ha).1
 have ha':(S++[aH.arr e sz 0 0 []])[a]? = some (.cells cs ty):=by rw [au hlt];exact ha
 obtain⟨pl,hpl,hB⟩:=hth.get ha'
 have hset:(ι++[(⟨0,0,.slice none 0 0,sz⟩:Pl)]).set a pl=ι++[⟨0,0,.slice none 0 0,sz⟩]:=gB hpl
 have key:=hth.update (w':=w) (ψ':=ψ) (B':=.cells (cs.set j (.sown S.length 0 0)) ty) (pl':=pl) ha' hpl (Cx _ _) (fun _ _ _=>rfl) (by rw [hset];exact dW.refl _ _) ?_ (fun k hk=>.inl hk) (fun b o v ev=>.inl ⟨ev,fun hk=>?_⟩) rfl
 ·rw [hset] at key;exact key
 ·rw [hset]
  obtain⟨h0,⟨c,T,h1,h2,h3⟩,h4,h5⟩:=hB
  refine⟨h0,⟨c,T,h1,by simpa using h2,fun m x ex=>?_⟩,h4,h5⟩
  by_cases hm:m=j
  ·subst hm
   have hml:m<cs.length:=(af.1 hj).1
   simp [hml] at ex
   subst ex
   obtain⟨_,v,hv,hr⟩:=h3 m _ hj
   cases hr
   exact⟨rfl,_,hv,.sown _ _ _ _ _ ⟨0,0,.slice none 0 0,sz⟩ (by rw [← h.len];simp) (ba _) (fun _=>rfl)⟩
  ·rw [be (fun e=>hm e.symm)] at ex
   exact h3 m x ex
 ·simp [aH.at] at hk
  obtain⟨_,_,h4,_⟩:=hB
  rw [← hk,h4 o] at ev;cases ev
theorem nr{P:Program}{w0:World}{n0 N:Nat}{r:Option Nat}{Q:bU}{k:List TI}{env:du}{S:List aH}{i:KI}{a j:Nat}{cs:List AV}{ty:Option TypeId}(e:TypeId)(sz:Nat)(ha:S[a]? = some (.cells cs ty))(hj:cs[j]? = some .snil)(hpos:0<sz)
  (h:aX P w0 n0 N r (.it i::k) Q .normal env ((S++[aH.arr e sz 0 0 []]).set a (.cells (cs.set j (.sown S.length 0 0)) ty))):aX P w0 n0 N r (.it i::k) Q .normal env S:=by
 intro ι ψ w ac hR hE
 have hx:=dW.push ι ψ ⟨0,0,.slice none 0 0,sz⟩
 exact KI.mono (h _ _ w ac (hR.thawCell e sz ha hj hpos) (hE.mono hx)) fun e a2 w2 hp=>hp.chain (hx.take n0)
attribute [go_sem] mm wI cC
end Go.Fen
namespace Go.Fen
open Go.RowKit
variable {P:Program}{w0 w w':World}{ι:List Pl}{ψ:eo}{S:List aH}
def tW(tm:List (Nat × AV)):du:=tm.foldr (fun p e=>eY e p.1 p.2) (fun t=>if t=DS then .dfr [] else .junk)
theorem K_{N:Nat}{tm:List (Nat × AV)}{vs:Array Value}(hs:vs.size=N)(hN:N≤DS)(hlt:∀ p∈tm,p.1<N)(h:∀ p∈tm,VR ι ψ p.2 (vs.getD p.1 undef)):fT ι ψ N (tW tm) { tmps:=vs,defers:=[] }:=by
 induction tm with
 | nil =>
  refine⟨hs,hN,⟨[],[],by simp [tW],rfl,χ,rfl⟩,fun t=>?_⟩
  simp only [tW,List.foldr_nil]
  split
  ·next ht =>
   have:vs.getD t undef=undef:=by
    rw [aC,dg ω];rfl
   rw [this];exact .dfr [] [] rfl χ
  ·exact .junk _
 | cons p tm ih =>
  have hE:=ih (fun q hq=>hlt q (by simp [hq])) (fun q hq=>h q (by simp [hq]))
  have hp:=hlt p χ
  refine⟨hs,hN, ?_,fun t=>?_⟩
  ·obtain⟨l,ws,h1,h2⟩:=hE.defers
   exact⟨l,ws,by simp only [tW,List.foldr_cons,eY];rw [if_neg ω];exact h1,h2⟩
  ·simp only [tW,List.foldr_cons,eY]
   split
   ·next ht=>subst ht;exact h p χ
   ·exact hE.tmp t
def xg(env:du):List (Nat × AV)→du
 | []=>env
 | p::l=>xg (eY env p.1 p.2) l
theorem JQ{N:Nat}:∀ (ps:List Tmp) (xs:List AV) (cs:List Value) (env:du) (vs:Array Value),fT ι ψ N env { tmps:=vs,defers:=[] }→ps.length=xs.length→xs.length=cs.length→(∀ p∈ps,p<N) →
  (∀ (j:Nat) (x:AV) (c:Value),xs[j]? = some x→cs[j]? = some c→VR ι ψ x c)→fT ι ψ N (xg env (ps.zip xs)) { tmps:=(ps.zip cs).foldl (fun tmps p=>tmps.setIfInBounds p.1 p.2) vs,defers:=[] }:=by
 intro ps
 induction ps with
 | nil=>intro xs cs env vs hE _ _ _ _;simpa [xg] using hE
 | cons p ps ih =>
  intro xs cs env vs hE h1 h2 hlt hv
  cases xs with
  | nil=>simp at h1
  | cons x xs =>
   cases cs with
   | nil=>simp at h2
   | cons c cs =>
    simp only [List.zip_cons_cons,xg,g9]
    have:=hE.put (d:=p) (hv 0 x c rfl rfl) (hlt p χ)
    exact ih xs cs _ _ this (by simpa using h1) (by simpa using h2) (fun q hq=>hlt q (by simp [hq])) (fun j x c hx hc=>hv (j+1) x c (by simpa using hx) (by simpa using hc))
def uW(a:Nat)(R:gL→List aH→Prop):bU
 | .normal,_,S=>∃ st pend N tm ps asg body,S[a]? = some (.loop st pend N tm ps asg body)∧R (.ret (.bool true)) (S.set a (.loop .ready none N tm ps asg body))
 | .ret,_,S=>∃ st pend N tm ps asg body,S[a]? = some (.loop st pend N tm ps asg body)∧R (.ret (.bool false)) (S.set a (.loop .done (some .ret) N tm ps asg body))
 | .exit id,_,S=>∃ st pend N tm ps asg body,S[a]? = some (.loop st pend N tm ps asg body)∧R (.ret (.bool false)) (S.set a (.loop .done (some (.exit id)) N tm ps asg body))
 | _,_,_=>False
def YA(P:Program)(w0:World)(a:Nat)(args:List AV)(S:List aH)(R:gL→List aH→Prop):Prop :=
 ∃ pend N tm ps asg body,S[a]? = some (.loop .ready pend N tm ps asg body)∧ps.size=args.length∧N≤DS∧(∀ p∈tm,p.1<N)∧(∀ p∈ps.toList,p<N) ∧
  ∀ rb:Nat,aX P w0 S.length N (some rb) [.it (.code asg)] (fun x env1 S1=>x=.normal∧∃ pend',S1[a]? = some (.loop .ready pend' N tm ps asg body) ∧
   aX P w0 S.length N (some rb) [.it (.code body)] (uW a R) .normal env1 (S1.set a (.loop .busy pend' N tm ps asg body))) .normal (xg (tW tm) (ps.toList.zip args)) S
theorem YA.mono{a:Nat}{args:List AV}{R R':gL→List aH→Prop}(h:YA P w0 a args S R)(hr:∀ o S,R o S→R' o S)
  (hm:∀ {n0 N:Nat}{r:Option Nat}{c:Code}{Q Q':bU}{env:du}{S:List aH},(∀ x e S,Q x e S→Q' x e S)→aX P w0 n0 N r [.it (.code c)] Q .normal env S→aX P w0 n0 N r [.it (.code c)] Q' .normal env S):YA P w0 a args S R':=by
 obtain⟨pend,N,tm,ps,asg,body,h1,h2,h3,h4,h5,h6⟩:=h
 refine⟨pend,N,tm,ps,asg,body,h1,h2,h3,h4,h5,fun rb=>hm ?_ (h6 rb)⟩
 rintro x e S ⟨rfl,pend',k1,k2⟩
 refine⟨rfl,pend',k1,hm (fun x e S hq=>?_) k2⟩
 cases x with
 | normal=>obtain⟨st,pend,N,tm,ps,asg,body,q1,q2⟩:=hq;exact⟨st,pend,N,tm,ps,asg,body,q1,hr _ _ q2⟩
 | ret=>obtain⟨st,pend,N,tm,ps,asg,body,q1,q2⟩:=hq;exact⟨st,pend,N,tm,ps,asg,body,q1,hr _ _ q2⟩
 | exit id=>obtain⟨st,pend,N,tm,ps,asg,body,q1,q2⟩:=hq;exact⟨st,pend,N,tm,ps,asg,body,q1,hr _ _ q2⟩
 | goto l=>exact hq
 | panic v=>exact hq
theorem Dt{n0 N:Nat}{r:Option Nat}{c:Code}{Q Q':bU}{env:du}(hq:∀ x e S,Q x e S→Q' x e S)(h:aX P w0 n0 N r [.it (.code c)] Q .normal env S):aX P w0 n0 N r [.it (.code c)] Q' .normal env S :=
 fun ι ψ w a hR hE=>KI.mono (it:=.code c) (h ι ψ w a hR hE) fun _ _ _ ⟨ι',ψ',x,env',S',h1,h2,h3,h4,h5⟩=>⟨ι',ψ',x,env',S',h1,h2,h3,h4,hq x env' S' h5⟩
theorem xk{a:Nat}{R:gL→List aH→Prop}{n0 N:Nat}{pl:Pl}(hpl:ι[a]? = some pl)(ha:a<n0){e:Exit}{ac:Act}{w1:World}
  (hp:lz w0 n0 N ι ψ (uW a R) e ac w1):roundPost P pl.blk (fun e2 w2=>∃ ι' ψ' out S',dW (ι.take n0) ψ ι' ψ'∧cO w0 ι' ψ' S' w2∧nf ι' ψ' out e2∧R out S') e ac w1:=by
 obtain⟨ι',ψ',x,env',S',h1,h2,h3,h4,h5⟩:=hp
 obtain⟨p',hp',hb,_⟩:=h1.pl a pl (by rw [bc,if_pos ha];exact hpl)
 have fin:∀ (jump:Option Code) (st:LoopState) (pend:Option Code) (N:Nat) (tm:List (Nat × AV)) (ps:Array Tmp) (asg body:Code),S'[a]? = some (.loop st pend N tm ps asg body) →
   R (.ret (.bool jump.isNone)) (S'.set a (.loop (if jump.isNone then .ready else .done) jump N tm ps asg body)) →
   ∃ v w2,(Instr.endRound pl.blk jump).run P w1=.ok v w2∧∃ ι'' ψ'' out S'',dW (ι.take n0) ψ ι'' ψ''∧cO w0 ι'' ψ'' S'' w2∧nf ι'' ψ'' out (.returned v)∧R out S'':=by
  intro jump st pend N tm ps asg body hS hR
  obtain⟨q0,⟨fn,vs,d,q1,q2,q3⟩,q4,q5⟩:=h2.blk a _ p' hS hp'
  rw [← hb]
  refine⟨_,_,run_endRound jump q1,ι',ψ',.ret (.bool jump.isNone),_,h1, ?_,.bool _,hR⟩
  refine h2.putBlk hS hp' rfl rfl q4 (by intro es e;cases e) ?_
  exact⟨q0,⟨fn,vs,d,ez (eD q1),q2,q3⟩,q4,q5⟩
 cases x with
 | normal =>
  cases e<;>simp only [XR] at h4
  obtain⟨st,pend,N,tm,ps,asg,body,k1,k2⟩:=h5
  exact fin none st pend N tm ps asg body k1 k2
 | ret =>
  cases e<;>simp only [XR] at h4
  obtain⟨st,pend,N,tm,ps,asg,body,k1,k2⟩:=h5
  exact fin (some .ret) st pend N tm ps asg body k1 k2
 | exit id =>
  cases e<;>simp only [XR] at h4
  subst h4
  obtain⟨st,pend,N,tm,ps,asg,body,k1,k2⟩:=h5
  exact fin (some (.exit id)) st pend N tm ps asg body k1 k2
 | goto l=>exact h5.elim
 | panic v=>exact h5.elim
section
variable {n0 N:Nat}{r:Option Nat}{Q:bU}{k:List TI}{env:du}
theorem CG{all:Array Oper}{o:Oper}{l:List Oper}{fop:Operand}{args:Array Operand}{tys:Array TypeId}{a:Nat}
  (hg:ce all env o=some true) (ho:o.op=.call ⟨.value fop,args,tys⟩) (hf:bo w0 env fop=.yld a) (hd:eV N o.dst=true)
  (h:YA P w0 a (args.toList.map (bo w0 env)) S (aU P w0 n0 N r all l k Q env o.dst)) :
  aX P w0 n0 N r (.it (.ops all (o::l))::k) Q .normal env S:=by
 intro ι ψ w ac hR hE
 have hw:=da hE hg
 refine ej hw (fun c hc=>by rw [hc] at ho;cases ho) ?_
 obtain⟨pend,N',tm,ps,asg,body,h1,h2,h3,h4,h5,h6⟩:=h
 have hvf:=hE.eval hR fop
 rw [hf] at hvf
 generalize hcf:ac.eval fop=cf at hvf
 cases hvf with
 | yld _ pl hpl =>
  obtain⟨q0,⟨fn,vs,d,q1,q2,q3⟩,q4,q5⟩:=hR.blk a _ pl h1 hpl
  have hsz:(args.map ac.eval).size=ps.size:=by rw [h2];simp
  have hres:(execOp ac.eval o).run P w=.ok (.round pl.blk fn ((ps.zip (args.map ac.eval)).foldl (fun tmps (t,a)=>tmps.setIfInBounds t a) vs) asg body) w:=by
   have hy:=run_yield (P:=P) (args:=args.map ac.eval) q1 hsz
   simp only [execOp,ho,resolve,hcf,Deferred.ofValue,invoke,co,gp,cA,Array.empty_append]
   first
   | exact hy
   | simpa using hy
  rw [hres]
  refine⟨fun h=>sZ r h, ?_⟩
  have ha:a<S.length:=(af.1 h1).1
  have hE0:fT ι ψ N' (xg (tW tm) (ps.toList.zip (args.toList.map (bo w0 env)))) { tmps:=(ps.zip (args.map ac.eval)).foldl (fun tmps (t,a)=>tmps.setIfInBounds t a) vs,defers:=[] }:=by
   have:=JQ (ι:=ι) (ψ:=ψ) ps.toList (args.toList.map (bo w0 env)) (args.map ac.eval).toList (tW tm) vs (K_ q2 h3 h4 q3) (by simpa using h2) χ h5 (fun j x c hx hc=>by
    simp only [aJ,aL,Array.toList_map] at hx hc
    obtain⟨y,hy,rfl⟩:=hx
    obtain⟨z,hz,rfl⟩:=hc
    rw [hy] at hz;cases hz
    exact hE.eval hR y)
   rw [← Array.foldl_toList,Array.toList_zip]
   exact this
  have key:RoundIn (FR r) (0 - 1) P pl.blk fn ((ps.zip (args.map ac.eval)).foldl (fun tmps (t,a)=>tmps.setIfInBounds t a) vs) asg body w
    (fun e2 w2=>∃ ι' ψ' out S',dW (ι.take S.length) ψ ι' ψ'∧cO w0 ι' ψ' S' w2∧nf ι' ψ' out e2∧aU P w0 n0 N r all l k Q env o.dst out S'):=by
   refine roundIn_of_wpIn trivial ?_
   have hF:(FR r).inRound pl.blk=FR (some pl.blk):=rfl
   rw [hF]
   refine wpIn_mono ((h6 pl.blk) ι ψ w _ hR hE0) fun e a1 w1 hp=>?_
   obtain⟨ι1,ψ1,x1,env1,S1,e1,e2,e3,e4,rfl,pend',e5,e6⟩:=hp
   cases e<;>simp only [XR] at e4
   obtain⟨p1,hp1,hb1,_⟩:=e1.pl a pl (by rw [bc,if_pos ha];exact hpl)
   obtain⟨r0,⟨fn',vs',d',r1,r2,r3⟩,r4,r5⟩:=e2.blk a _ p1 e5 hp1
   rw [← hb1]
   refine⟨_,run_beginRound r1 rfl, ?_⟩
   have hR2:cO w0 ι1 ψ1 (S1.set a (.loop .busy pend' N' tm ps asg body)) (w1.putObj p1.blk (.loop { state:=.busy,pending:=pend',fn:=fn',tmps:=vs',params:=ps,assign:=asg,body,defers:=d' })) :=
    e2.putBlk e5 hp1 rfl rfl r4 (by intro es e;cases e) ⟨r0,⟨fn',vs',d',ez (eD r1),r2,r3⟩,r4,r5⟩
   have hrun:=e6 ι1 ψ1 _ a1 hR2 e3
   rw [hb1] at hrun ⊢
   refine wpIn_mono hrun fun ex a2 w2 hp2=>?_
   have:=xk (P:=P) hp1 ha hp2
   rw [hb1] at this
   cases ex with
   | normal=>obtain⟨v,w3,s1,ι3,ψ3,out,S3,s2,s3⟩:=this;exact⟨v,w3,s1,ι3,ψ3,out,S3,e1.chain s2,s3⟩
   | ret=>obtain⟨v,w3,s1,ι3,ψ3,out,S3,s2,s3⟩:=this;exact⟨v,w3,s1,ι3,ψ3,out,S3,e1.chain s2,s3⟩
   | exit id=>obtain⟨v,w3,s1,ι3,ψ3,out,S3,s2,s3⟩:=this;exact⟨v,w3,s1,ι3,ψ3,out,S3,e1.chain s2,s3⟩
   | goto l=>obtain⟨v,w3,s1,ι3,ψ3,out,S3,s2,s3⟩:=this;exact⟨v,w3,s1,ι3,ψ3,out,S3,e1.chain s2,s3⟩
   | panic ch=>exact this
   | outgrown=>exact this
  refine key.mono ?_
  rintro e w' ⟨ι',ψ',out,S',e1,e2,e3,e4⟩
  have hx:dW ι ψ ι' ψ':=by rw [← hR.len,bC] at e1;exact e1
  cases out with
  | ret v =>
   cases e<;>simp only [nf] at e3
   exact KI.mono (it:=.ops all l) (e4 ι' ψ' w' _ e2 ((hE.mono hx).putA e3 hd)) fun e a2 w2 hp=>hp.chain (hx.take n0)
  | panic v =>
   cases e<;>simp only [nf] at e3
   exact⟨ι',ψ',.panic v,env,S',hx.take n0,e2,hE.mono hx,e3,e4⟩
def oC(P:Program)(w0:World)(n0 N:Nat)(m:Nat)(k:List TI)(Q:bU)(env:du):gL→List aH→Prop
  | .ret _,S=>∃ st pend N' tm ps asg body,S[m]? = some (.loop st pend N' tm ps asg body)∧(st==.busy)=false ∧
      (match pend with
       | none=>aX P w0 n0 N none k Q .normal env (S.set m (.loop .exhausted pend N' tm ps asg body))
       | some c=>aX P w0 n0 N none (.it (.code c)::k) Q .normal env (S.set m (.loop .exhausted pend N' tm ps asg body)))
  | .panic v,S=>aX P w0 n0 N none k Q (.panic v) env S
theorem wO{g:Operand}{ps:Array Tmp}{asg body:Code}{f:FuncId}{first cap ds:List AV}(keep:List Nat)(hf:bo w0 env g=.fn (.func f) first cap)(hds:env DS=.dfr ds)
  (hk:keep.all (fun t=>decide (t<N))=true)
  (h:ao P w0 f (first++[.yld (S.length+1)]++cap) (S++[.obj (.deferred (some [])),.loop .ready none N (keep.map fun t=>(t,env t)) ps asg body])
   (oC P w0 n0 N (S.length+1) k Q (eY env DS (.dfr (.own S.length 0::ds))))) :
  aX P w0 n0 N none (.it (.code (.rangeFunc g ps asg body))::k) Q .normal env S:=by
 intro ι ψ w a hR hE
 refine wpIn_rangeFunc fun fn _=>?_
 let B:=w.heap.size
 have hlen:=hR.len
 obtain⟨ds',dvs,d1,d2,d3,d4⟩:=hE.defers
 rw [hds] at d1;cases d1
 have hR1:cO w0 (ι++[⟨B,0,undef,0⟩]) ψ (S++[.obj (.deferred (some []))]) (w.alloc (.deferred (some []))) :=
  hR.newBlk _ _ (fun _=>rfl) ⟨hR.n0,j9 w _,(fun e=>by cases e),fun k=>hR.psi_new (ba _) k,hR.psim_new (ba _)⟩
 have hB1:(w.alloc (.deferred (some []))).heap.size=B+1:=by simp [B]
 have hx1:=dW.push ι ψ ⟨B,0,undef,0⟩
 have qn:=dW.push (ι++[⟨B,0,undef,0⟩]) ψ ⟨B+1,0,undef,0⟩
 have hR2:cO w0 (ι++[⟨B,0,undef,0⟩]++[⟨B+1,0,undef,0⟩]) ψ (S++[.obj (.deferred (some []))]++[.loop .ready none N (keep.map fun t=>(t,env t)) ps asg body])
   ((w.alloc (.deferred (some []))).alloc (.loop { state:=.ready,pending:=none,fn,tmps:=a.tmps,params:=ps,assign:=asg,body,defers:=B })):=by
  have:=hR1.newBlk (.loop { state:=.ready,pending:=none,fn,tmps:=a.tmps,params:=ps,assign:=asg,body,defers:=B }) (.loop .ready none N (keep.map fun t=>(t,env t)) ps asg body) (fun _=>rfl)
   ⟨hR1.n0,⟨fn,a.tmps,B,j9 _ _,hE.size,fun p hp=>by
    obtain⟨t,_,rfl⟩:=aN.1 hp
    exact((hE.tmp t).mono hx1).mono (by rw [← hB1] at qn;exact qn)⟩,fun k=>hR1.psi_new (ba _) k,hR1.psim_new (ba _)⟩
  rw [hB1] at this
  exact this
 have hx12:=hx1.trans qn
 have hSS:S++[.obj (.deferred (some []))]++[.loop .ready none N (keep.map fun t=>(t,env t)) ps asg body]=S++[.obj (.deferred (some [])),.loop .ready none N (keep.map fun t=>(t,env t)) ps asg body]:=χ
 rw [hSS] at hR2
 have hvf:=hE.eval hR g
 rw [hf] at hvf
 generalize hcf:a.eval g=cf at hvf
 cases hvf with
 | fn _ _ _ vf vc hl1 hl2 h1 h2 =>
  refine⟨B+1,[{ target:=.collected B,args:=#[] }],_,{ target:=.fn (.func f) vc,args:=vf++#[.func (.yield (B+1)) #[] #[]] },((w.alloc (.deferred (some []))).alloc (.loop { state:=.ready,pending:=none,fn,tmps:=a.tmps,params:=ps,assign:=asg,body,defers:=B })),f,vf++#[.func (.yield (B+1)) #[] #[]]++vc,((w.alloc (.deferred (some []))).alloc (.loop { state:=.ready,pending:=none,fn,tmps:=a.tmps,params:=ps,assign:=asg,body,defers:=B })),run_enterLoop_outer fn a.tmps ps asg body, ?_,fun _ _=>trivial, ?_,fun h=>by simp [FR,Fence.wide] at h, ?_⟩
  ·have hargs:(#[Operand.const (.func (.yield (B+1)) #[] #[])]:Array Operand).map a.eval=#[.func (.yield (B+1)) #[] #[]]:=by simp [Act.eval]
   simp only [resolve,hcf,hargs,Deferred.ofValue,gp]
   rfl
  ·simp only [invoke];exact h.1 _ _
  ·have hcall:=h.2 _ ψ _ (vf++#[.func (.yield (B+1)) #[] #[]]++vc) hR2 (by simp [hl1,hl2];omega) (fun j x c hx hc=>by
    have hc':(vf.toList++[Value.func (.yield (B+1)) #[] #[]]++vc.toList)[j]? = some c:=by
     rw [← bu] at hc
     simpa using hc
    by_cases hj1:j<first.length
    ·rw [aP,au hj1] at hx
     rw [aP,au κ] at hc'
     exact(h1 j x c hx (by simpa using hc')).mono hx12
    ·by_cases hj2:j=first.length
     ·subst hj2
      simp at hx
      rw [hl1] at hc'
      simp at hc'
      subst hx;subst hc'
      exact .yld _ ⟨B+1,0,undef,0⟩ (by rw [← hlen];simp)
     ·rw [aA κ] at hx
      rw [aA κ] at hc'
      simp only [ah,aB,aI,fk,← hl1] at hx hc'
      exact(h2 _ x c hx (by simpa using hc')).mono hx12)
   refine oB (r:=none) (hcall.mono ?_)
   rintro e w3 ⟨ι',ψ',out,S',e1,e2,e3,e4⟩
   have hxx:=hx12.trans e1
   have hE':fT ι' ψ' N (eY env DS (.dfr (.own S.length 0::ds))) { a with defers:=[{ target:=.collected B,args:=#[] }]++a.defers }:=by
    obtain⟨p',hp',hb',_⟩:=e1.pl S.length ⟨B,0,undef,0⟩ (by rw [← hlen];simp)
    refine⟨hE.size,hE.bound,⟨.own S.length 0::ds,.pointer (some ⟨B,0,none⟩)::dvs,by simp [eY],by simp [d2],fun j x v hx hv=>?_, ?_⟩,fun t=>?_⟩
    ·cases j with
     | zero =>
      simp at hx hv;subst hx;subst hv
      have:B=p'.blk:=hb'.symm
      rw [this]
      exact .own _ _ p' hp'
     | succ j=>exact(d3 j x v (by simpa using hx) (by simpa using hv)).mono hxx
    ·simp [d4,wX]
    ·simp only [eY]
     split
     ·next ht =>
      have:a.tmps.getD t undef=undef:=by
       rw [aC,dg (by rw [hE.size,ht];exact hE.bound)];rfl
      show VR _ _ _ (a.tmps.getD t undef)
      rw [this]
      refine .dfr _ (.pointer (some ⟨B,0,none⟩)::dvs) (by simp [d2]) fun j x v hx hv=>?_
      cases j with
      | zero =>
       simp at hx hv;subst hx;subst hv
       have:B=p'.blk:=hb'.symm
       rw [this]
       exact .own _ _ p' hp'
      | succ j=>exact(d3 j x v (by simpa using hx) (by simpa using hv)).mono hxx
     ·exact(hE.tmp t).mono hxx
   cases out with
   | ret v =>
    cases e<;>simp only [nf] at e3
    obtain⟨st,pend,N',tm,ps',asg',body',k1,k2,k3⟩:=e4
    obtain⟨p',hp',hb',_⟩:=e1.pl (S.length+1) ⟨B+1,0,undef,0⟩ (by rw [← hlen];simp)
    obtain⟨q0,⟨fn',vs',d',q1,q2,q3⟩,q4,q5⟩:=e2.blk _ _ p' k1 hp'
    have hbl:p'.blk=B+1:=hb'
    have hne:st≠.busy:=fun e=>by subst e;exact absurd k2 δ
    have hend:=run_endLoop (P:=P) q1 hne
    rw [hbl] at hend
    refine⟨pend,_,hend, ?_⟩
    have hR3:cO w0 ι' ψ' (S'.set (S.length+1) (.loop .exhausted pend N' tm ps' asg' body')) (w3.putObj p'.blk (.loop { state:=.exhausted,pending:=pend,fn:=fn',tmps:=vs',params:=ps',assign:=asg',body:=body',defers:=d' })) :=
     e2.putBlk k1 hp' rfl rfl q4 (by intro es e;cases e) ⟨q0,⟨fn',vs',d',ez (eD q1),q2,q3⟩,q4,q5⟩
    rw [hbl] at hR3
    cases pend with
    | none=>exact⟨ι',ψ',.normal,_,_,hxx.take n0,hR3,hE',trivial,k3⟩
    | some c=>exact wpIn_mono (k3 ι' ψ' _ _ hR3 hE') fun e a2 w2 hp=>hp.chain (hxx.take n0)
   | panic v =>
    cases e<;>simp only [nf] at e3
    exact⟨ι',ψ',.panic v,_,S',hxx.take n0,e2,hE',e3,e4⟩
end
end Go.Fen
namespace Go.Fen
open Go.RowKit
variable {P:Program}{w0 w w':World}{ι:List Pl}{ψ:eo}{S:List aH}
theorem uF{α β:Type}[BEq β][LawfulBEq β](f:α→β):∀ (l:List α) (j:Nat) (x:α),(l.map f).Nodup→l[j]? = some x→l.filter (fun y=>!(f y==f x))=l.eraseIdx j
 | [],j,x,_,h=>by simp at h
 | y::l,0,x,hn,h=>by
  simp at h;subst h
  rw [al,pT] at hn
  simp only [Fv,beq_self_eq_true,cq,aZ,if_false,List.eraseIdx_cons_zero]
  rw [List.filter_eq_self]
  intro z hz
  have:f z≠f y:=fun e=>hn.1 (e▸dc hz)
  simpa using this
 | y::l,j+1,x,hn,h=>by
  rw [al,pT] at hn
  have hx:l[j]? = some x:=by simpa using h
  have hne:f y≠f x:=fun e=>hn.1 (e▸dc (ax hx))
  have hne':(f y==f x)=false:=by simpa using hne
  simp only [Fv,hne',bQ,if_true,yD]
  rw [uF f l j x hn.2 hx]
theorem sn{α:Type}:∀ (l:List α) (j:Nat) (x:α),l[j]? = some x→l.Perm (x::l.eraseIdx j)
 | [],j,x,h=>by simp at h
 | y::l,0,x,h=>by simp at h;subst h;simp
 | y::l,j+1,x,h=>by
  have:=sn l j x (by simpa using h)
  rw [yD]
  exact(this.cons y).trans (List.Perm.swap x y _)
theorem uE:∀ (l:List MapEntry) (m:MapEntry),(l.map (·.born)).Nodup→m∈l→l.find? (fun e=>e.born==m.born)=some m
 | [],m,_,h=>by simp at h
 | x::l,m,hn,h=>by
  rw [al,pT] at hn
  rcases bD.1 h with rfl|h
  ·simp
  ·have hne:x.born≠m.born:=fun e=>hn.1 (e▸dc h)
   rw [List.find?_cons_of_neg (by simpa using hne)]
   exact uE l m hn.2 h
theorem yi(n:Nat)(hn:0<n)(w:World):∃ j w1,j<n∧(w1=w∨w1=w.drew)∧(choose (.mapNext n)).run P w=.ok j w1:=by
 rw [run_choose_drew]
 by_cases h:n≤1
 ·exact⟨0,w,hn,.inl rfl,by simp [Question.forced,h]⟩
 ·exact⟨(w.tape w.drawn (.mapNext n)) % n,w.drew,eh _ hn,.inr rfl,by simp [Question.forced,h,Question.cut]⟩
section
variable {n0 N:Nat}{r:Option Nat}{Q:bU}{k:List TI}{env:du}
theorem ry{all:Array Oper}{o:Oper}{l:List Oper}{it:Operand}{a:Nat}{cur:Option (AV × AV)}{rest:List (AV × AV)}(hg:ce all env o=some true)(ho:o.op=.next it false)(hit:bo w0 env it=.own a 0)
  (hS:S[a]? = some (.mit cur rest)) (hd:eV N o.dst=true)
  (h0:rest=[]→aX P w0 n0 N r (.it (.ops all l)::k) Q .normal (putA env o.dst (.tup [.bool false])) S)
  (h1:∀ e rest',rest.Perm (e::rest')→aX P w0 n0 N r (.it (.ops all l)::k) Q .normal (putA env o.dst (.tup [.bool true,e.1,e.2])) (S.set a (.mit (some e) rest'))) :
  aX P w0 n0 N r (.it (.ops all (o::l))::k) Q .normal env S:=by
 intro ι ψ w ac hR hE
 have hw:=da hE hg
 refine ej hw (fun c hc=>by rw [hc] at ho;cases ho) ?_
 have hv:=hE.eval hR it
 rw [hit] at hv
 generalize hc:ac.eval it=c at hv
 have hres:(execOp ac.eval o).run P w=(do pure (.value (← kJ c false o.type)):Sem Next).run P w:=by
  obtain⟨dst,op,ty,pos,after,guard⟩:=o
  simp only at ho
  subst ho
  simp [execOp,hc]
 rw [hres]
 cases hv with
 | own _ _ pl hpl =>
  obtain⟨q0,q1,q3,q4⟩:=hR.blk a _ pl hS hpl
  have over:(kJ (.pointer (some ⟨pl.blk,0,none⟩)) false o.type).run P w=.ok (.tuple #[.bool false]) w→rest=[] →
    o.uponIn (FR r) 0 P ac (wpListIn (FR r) 0 P all (lz w0 n0 N ι ψ (aX P w0 n0 N r k Q)) l) (lz w0 n0 N ι ψ (aX P w0 n0 N r k Q)) ((do pure (.value (← kJ (.pointer (some ⟨pl.blk,0,none⟩)) false o.type)):Sem Next).run P w):=by
   intro hn hr
   simp only [co,hn,cA,gp]
   exact(h0 hr) ι ψ w _ hR (hE.putA (.tup _ _ rfl fun j x v hx hv=>by
    match j with
    | 0=>simp at hx hv;subst hx;subst hv;exact .bool _
    | j+1=>simp at hx) hd)
  rcases q1 with⟨k1,k2,k3⟩|⟨mb,ck,me,seen,lst,k1,k2,k4,k5,k6⟩
  ·exact over (by simp [kJ,getObj,qH,k1]) k2
  ·obtain⟨hm,hok⟩:=hR.psim mb me ck k2
   have hb:=hok.1
   have hall:∀ e∈me.toList,e.born<ck:=hb
   let left:=me.filter fun e=>!seen.contains e.born
   have hleftL:left.toList=me.toList.filter (fun e=>!seen.contains e.born):=by simp [left]
   have hold:left.filter (fun e=>decide (e.born<ck))=left:=by
    apply IV.1
    rw [Bb,List.filter_eq_self]
    intro e he
    rw [hleftL] at he
    simpa using hall e (Cv.1 he).1
   have hnew:left.filter (fun e=>decide (e.born≥ck))=#[]:=by
    apply IV.1
    rw [Bb,List.filter_eq_nil_iff]
    intro e he
    rw [hleftL] at he
    have:=hall e (Cv.1 he).1
    simp;omega
   have hun:(!seen.isEmpty&&!me.isEmpty&&me.all (fun e=>decide (e.born≥ck)))=false:=by
    cases hme:me.isEmpty with
    | true=>simp
    | false =>
     have:me.all (fun e=>decide (e.born≥ck))=false:=by
      rw [ub] at hme
      rw [← Array.all_toList,List.all_eq_false]
      have hpos:0<me.size:=Cy.2 hme
      refine⟨me[0],χ, ?_⟩
      have:=hall me[0] χ
      simp;omega
     simp [this]
   have hlen:lst.length=left.size:=by rw [k5.1,← hleftL];simp
   have hrun:(kJ (.pointer (some ⟨pl.blk,0,none⟩)) false o.type).run P w=(do
     match ((if left.isEmpty then #[none] else #[])++(left++#[]).map some)[← choose (.mapNext ((if left.isEmpty then #[none] else #[])++(left++#[]).map some).size)]? with
     | some (some e) =>
      setObj pl.blk (.mapIter (some mb) ck (seen.push e.born) ck)
      pure (.tuple #[.bool true,e.key,e.val])
     | some none=>pure (.tuple #[.bool false])
     | none=>stuck "Next: no such candidate" : Sem Value).run P w:=by
    have hg1:(getObj pl.blk).run P w=.ok (.mapIter (some mb) ck seen ck) w:=by simp [getObj,qH,k1]
    have hg2:(getObj mb).run P w=.ok (.map me ck) w:=by simp [getObj,qH,hm]
    simp only [kJ,co,hg1,hg2,cA,hun,aZ,if_false,gp]
    rw [show (me.filter fun e=>!seen.contains e.born)=left from rfl,hold,hnew]
    rfl
   by_cases hle:left=#[]
   ·have hl0:rest=[]:=by
     have:lst=[]:=bW (by rw [hlen,hle];rfl)
     rw [this] at k4;exact List.Perm.eq_nil k4.symm
    refine over ?_ hl0
    rw [hrun,hle]
    simp [run_choose_drew,Question.forced]
   ·have hpos:0<left.size:=Cy.2 hle
    have hemp:left.isEmpty=false:=by rw [ub];exact hle
    have hcand:((if left.isEmpty then #[none] else #[])++(left++#[]).map some:Array (Option MapEntry))=left.map some:=by simp [hemp]
    rw [hcand,Array.size_map] at hrun
    obtain⟨j,w1,hj,hw1,hch⟩:=yi (P:=P) left.size hpos w
    have hmj:left[j]? = some left[j]:=bm hj
    have hw1h:w1.heap=w.heap:=by rcases hw1 with rfl|rfl<;>rfl
    have hR1:cO w0 ι ψ S w1:=by
     rcases hw1 with rfl|rfl
     ·exact hR
     ·exact hR.drew
    have k1':w1.heap[pl.blk]? = some (.mapIter (some mb) ck seen ck):=by rw [hw1h];exact k1
    have hset:(setObj pl.blk (.mapIter (some mb) ck (seen.push left[j].born) ck)).run P w1=.ok () (w1.putObj pl.blk (.mapIter (some mb) ck (seen.push left[j].born) ck)):=by simp [setObj,qH,k1',nR]
    have hrun2:(kJ (.pointer (some ⟨pl.blk,0,none⟩)) false o.type).run P w=.ok (.tuple #[.bool true,left[j].key,left[j].val]) (w1.putObj pl.blk (.mapIter (some mb) ck (seen.push left[j].born) ck)):=by
     rw [hrun]
     simp only [co,hch,cA,lc,hmj,dp,hset,gp]
    have hjl:j<lst.length:=by rw [hlen];exact hj
    have hlj:lst[j]? = some lst[j]:=ap hjl
    have hLj:(me.toList.filter fun e=>!seen.contains e.born)[j]? = some left[j]:=by rw [← hleftL];simpa using hmj
    have hv:=k5.2 j lst[j] left[j] hlj hLj
    have hmem:left[j]∈me.toList:=(Cv.1 (ax hLj)).1
    have hnd:((me.toList.filter fun e=>!seen.contains e.born).map (·.born)).Nodup:=hok.2.sublist (List.filter_sublist.map _)
    have hR2:cO w0 ι ψ (S.set a (.mit (some lst[j]) (lst.eraseIdx j))) (w1.putObj pl.blk (.mapIter (some mb) ck (seen.push left[j].born) ck)):=by
     refine hR1.putBlk hS hpl rfl rfl q3 (by intro es e;cases e) ⟨q0,.inr ⟨mb,ck,me,seen.push left[j].born,lst.eraseIdx j,ez (eD k1'),k2,.refl _, ?_, ?_⟩,q3,q4⟩
     ·have hf:me.toList.filter (fun e=>!(seen.push left[j].born).contains e.born)=(me.toList.filter fun e=>!seen.contains e.born).eraseIdx j:=by
       rw [← uF (·.born) _ j left[j] hnd hLj,List.filter_filter]
       congr 1
       funext e
       simp only [Array.contains_push,Bool.not_or,Bool.and_comm]
      rw [hf]
      refine⟨by rw [uY hjl,uY (by rw [← k5.1];exact hjl),k5.1],fun i e m he hm=>?_⟩
      rw [List.getElem?_eraseIdx] at he hm
      split at he
      ·next hij=>rw [if_pos hij] at hm;exact k5.2 i e m he hm
      ·next hij=>rw [if_neg hij] at hm;exact k5.2 (i+1) e m he hm
     ·intro e he
      cases he
      refine⟨left[j].born,left[j],χ, ?_,hv.1,hv.2⟩
      rw [← Array.find?_toList]
      exact uE me.toList left[j] hok.2 hmem
    simp only [co,hrun2,cA,gp]
    have hp:rest.Perm (lst[j]::lst.eraseIdx j):=k4.symm.trans (sn lst j _ hlj)
    exact(h1 lst[j] (lst.eraseIdx j) hp) ι ψ _ _ hR2 (hE.putA (.tup _ _ rfl fun i x v hx hv'=>by
     match i with
     | 0=>simp at hx hv';subst hx;subst hv';exact .bool _
     | 1=>simp at hx hv';subst hx;subst hv';exact hv.1
     | 2=>simp at hx hv';subst hx;subst hv';exact hv.2
     | i+3=>simp at hx) hd)
end
end Go.Fen
namespace Go.Fen
open Go.RowKit
variable {P:Program}{w0 w w':World}{ι:List Pl}{ψ:eo}{S:List aH}
section
variable {n0 N:Nat}{r:Option Nat}{Q:bU}{k:List TI}{env:du}
theorem FB{all:Array Oper}{o:Oper}{l:List Oper}{fop x:Operand}{tys:Array TypeId}{f:FuncId}{v:AV}(hg:ce all env o=some true)(ho:o.op=.call ⟨.value fop,#[x],tys⟩)(hf:bo w0 env fop=.fn (.func f) [] [])
  (hext:∀ (c:Value) (w:World),(callFunc f #[c]).run P w=.ok (.value c) w) (hd:eV N o.dst=true) (hx:bo w0 env x=v)
  (h:aX P w0 n0 N r (.it (.ops all l)::k) Q .normal (putA env o.dst v) S):aX P w0 n0 N r (.it (.ops all (o::l))::k) Q .normal env S:=by
 subst hx
 intro ι ψ w a hR hE
 have hw:=da hE hg
 refine ej hw (fun c hc=>by rw [hc] at ho;cases ho) ?_
 have hvf:=hE.eval hR fop
 rw [hf] at hvf
 generalize hcf:a.eval fop=cf at hvf
 cases hvf with
 | fn _ _ _ vf vc hl1 hl2 h1 h2 =>
  obtain rfl:vf=#[]:=rx hl1.symm
  obtain rfl:vc=#[]:=rx hl2.symm
  have hres:(execOp a.eval o).run P w=.ok (.value (a.eval x)) w:=by
   simp [execOp,ho,resolve,hcf,Deferred.ofValue,invoke,hext]
  rw [hres]
  exact h ι ψ w _ hR (hE.putA (hE.eval hR x) hd)
theorem i8{i:KI}(a:Nat){S1:List aH}(hS:dH S a=S1)(h:aX P w0 n0 N r (.it i::k) Q .normal env S1):aX P w0 n0 N r (.it i::k) Q .normal env S:=by
 subst hS
 intro ι ψ w ac hR hE
 obtain⟨ψ1,hle,hR1⟩:=ku hR a
 have hx:dW ι ψ ι ψ1:=⟨(dW.refl ι ψ).pl,hle⟩
 exact KI.mono (h ι ψ1 w ac hR1 (hE.mono hx)) fun e a2 w2 hp=>hp.chain (hx.take n0)
end
def EI:AV→Option Value
 | .int k n=>some (.int k n)
 | .bool b=>some (.bool b)
 | .str s=>some (.string ⟨s.toArray⟩)
 | _=>none
theorem nG{x:AV}{c v:Value}(hx:VR ι ψ x c)(h:EI x=some v):c=v:=by
 cases x<;>simp [EI] at h<;>subst h
 ·exact hx.int_inv
 ·exact hx.bool_inv
 ·exact hx.str_inv
theorem ao.lib{f:FuncId}{args:List AV}{vs:List Value}{v:AV}{c:Value}{R:gL→List aH→Prop}(he:∀ (a:Array Value) (w:World),(callFunc f a).run P w=.ok (.enter f a) w)(ha:args.map EI=vs.map some)
  (hv:EI v=some c) (h:∀ w,Below w0.heap.size w0 w→Calls P f vs.toArray w fun e w'=>e=.returned c∧Below w.heap.size w w') (hR:R (.ret v) S):ao P w0 f args S R:=by
 refine⟨he,fun ι ψ w cargs hRel hl hargs=>?_⟩
 have hlen:args.length=vs.length:=by simpa using congrArg jI ha
 have:cargs=vs.toArray:=by
  apply ma
  intro j
  by_cases hj:j<args.length
  ·have h1:args[j]? = some args[j]:=ap hj
   have h2:cargs[j]? = some cargs[j]:=bm ω
   have h3:vs[j]? = some vs[j]:=ap ω
   have h4:=hargs j _ _ h1 h2
   have h5:(args.map EI)[j]? = (vs.map some)[j]?:=by rw [ha]
   simp only [aJ,h1,h3,dp,bl] at h5
   rw [h2]
   simp only [gA,h3]
   rw [nG h4 h5]
  ·rw [dg ω,gA,bR ω]
 subst this
 refine(h w hRel.below).mono ?_
 rintro e w' ⟨rfl,hb⟩
 have hb0:Below w0.heap.size w w':=hb.mono hRel.n0
 refine⟨ι,ψ,.ret v,S,dW.refl _ _,hRel.grow hb0 (fun k hk=>hb.block k hk) (eo.le_refl _) (fun _ _ _ e=>.inl e) (fun _ _ _ e=>.inl e), ?_,hR⟩
 cases v<;>simp [EI] at hv<;>subst hv
 ·exact .int _ _
 ·exact .bool _
 ·exact .str' _
def p_(P:Program)(w0:World)(all:Array Oper)(N:Nat):List Oper→du→List aH→Option (du × List aH)
 | [],env,S=>some (env,S)
 | o::l,env,S=>match ce all env o,ew P S (bo w0 env) o.op,eV N o.dst with
  | some true,some (v,S'),true=>p_ P w0 all N l (putA env o.dst v) S'
  | _,_,_=>none
def wB(P:Program)(w0:World)(g:FuncId)(args:List AV)(rv:AV)(S:List aH)(K:List aH→Prop):Prop :=
 ∃ (G:Func) (id:Nat) (o0:Oper) (l:List Oper) (rest:Code) (ty:TypeId) (d:Nat) (env1:du) (S1:List aH),P.funcs[g]? = some G∧(G.name == "runtime.NumGoroutine")=false∧G.body=some (.seq (.region id (o0::l).toArray false) rest) ∧
  o0.op=.call ⟨.builtin .recover,#[],#[]⟩∧o0.guard=none∧o0.type=ty∧o0.dst=some d∧d<G.ntmps∧args.length≤G.ntmps∧G.ntmps≤DS∧G.results=#[] ∧
  p_ P w0 (o0::l).toArray G.ntmps l (eY (dE args) d rv) S=some (env1,S1) ∧
  aX P w0 S.length G.ntmps none [.it (.code rest)] (fun x env S'=>(x=.normal∨x=.ret)∧env DS=.dfr []∧fV S.length S S'∧K (S'.take S.length)) .normal env1 S1
theorem vr{all:Array Oper}{N:Nat}{QQ:Exit→Act→List Frame→World→Prop}{cs:List Frame}:∀ (l:List Oper) (j:Nat) (env env':du) (S S':List aH) (ι:List Pl) (ψ:eo) (a:Act) (w:World),
  all.toList.drop j=l→p_ P w0 all N l env S=some (env',S')→cO w0 ι ψ S w→fT ι ψ N env a →
  (∀ ι' ψ' a' w',dW ι ψ ι' ψ'→cO w0 ι' ψ' S' w'→fT ι' ψ' N env' a'→QQ .normal a' cs w')→wpOpsSIn (FR none) 0 P all QQ (yC j l.length) a cs w:=by
 intro l
 induction l with
 | nil =>
  intro j env env' S S' ι ψ a w _ h hR hE hk
  simp [p_] at h
  obtain⟨rfl,rfl⟩:=h
  exact hk ι ψ a w (dW.refl _ _) hR hE
 | cons o l ih =>
  intro j env env' S S' ι ψ a w hd h hR hE hk
  have ho:all[j]? = some o:=by
   have:(all.toList.drop j)[0]? = some o:=by rw [hd];rfl
   simpa using this
  have hd':all.toList.drop (j+1)=l:=by
   have:=congrArg (List.drop 1) hd
   simpa [List.drop_drop,Nat.add_comm] using this
  simp only [p_] at h
  split at h
  ·next v S1 hg hs hds =>
   simp only [aB,List.range'_succ,wpOpsSIn,ho]
   refine⟨fun _ _=>trivial, ?_⟩
   rw [if_pos (da hE hg)]
   obtain⟨ι',ψ',w',nx,cv,h1,h2,h3,h4,h5⟩:=mI (P:=P) hR (fun x=>hE.eval hR x) hs
   rw [h1]
   have key:wpOpsSIn (FR none) 0 P all QQ (yC (j+1) l.length) (a.put o.dst cv) cs w' :=
    ih (j+1) _ env' S1 S' ι' ψ' _ w' hd' h h4 ((hE.mono h3).putA h5 hds) fun ι2 ψ2 a2 w2 e1 e2 e3=>hk ι2 ψ2 a2 w2 (h3.trans e1) e2 e3
   rcases h2 with rfl|⟨rfl,rfl⟩
   ·exact key
   ·exact key
  ·cases h
inductive MR (ι:List Pl) (ψ:eo):AV→FrameMode→FrameMode→Prop
 | ret:MR ι ψ .inil .returning .returning
 | pan (rv:AV) (c:Value) (h:VR ι ψ rv c):MR ι ψ rv (.panicking [{ v:=c,recovered:=false }]) (.panicking [{ v:=c,recovered:=true }])
theorem zG{g:FuncId}{args:List AV}{rv:AV}{K:List aH→Prop}(h:wB P w0 g args rv S K)(hR:cO w0 ι ψ S w){u u':FrameMode}(hm:MR ι ψ rv u u'){cargs:Array Value}(hl:args.length=cargs.size)
  (hv:∀ (j:Nat) (x:AV) (c:Value),args[j]? = some x→cargs[j]? = some c→VR ι ψ x c) :
  (∀ (a:Array Value) (w:World),(callFunc g a).run P w=.ok (.enter g a) w) ∧
  CallsDIn (FR none) 0 P g cargs u w fun e u2 w'=>e=.returned (.tuple #[])∧u2=u'∧∃ ι' ψ' S',dW ι ψ ι' ψ'∧cO w0 ι' ψ' S' w'∧K S':=by
 obtain⟨G,id,o0,l,rest,ty,d,env1,S1,h1,h2,h3,h4,h5,h6,h7,h8,h9,h10,h11,h12,h13⟩:=h
 refine⟨fun a w=>by simp only [callFunc,co,run_program,cA,h1,h2,h3];rfl, ?_⟩
 refine callsDIn_of_wpSIn h1 h3 trivial fun c₀ cs hu=>?_
 have hE:fT ι ψ G.ntmps (dE args) { tmps:=cargs++bT (G.ntmps - cargs.size) undef,defers:=[] }:=by
  refine⟨κ,h10,⟨[],[],by simp [dE],rfl,χ,rfl⟩,fun t=>?_⟩
  simp only [dE]
  split
  ·next ht =>
   have:(cargs++bT (G.ntmps - cargs.size) undef).getD t undef=undef:=by
    rw [aC,dg κ];rfl
   rw [this]
   exact .dfr [] [] rfl χ
  ·by_cases ht:t<args.length
   ·have e1:args[t]? = some args[t]:=ap ht
    have ht':t<cargs.size:=ω
    have e2:cargs[t]? = some cargs[t]:=bm ht'
    rw [e1,aC,lD ht',e2]
    exact hv t _ _ e1 e2
   ·rw [bR ω]
    exact .junk _
 have hfin:∀ (cs':List Frame) (rc:Value),VR ι ψ rv rc→cs'={ c₀ with mode:=u' }::cs →
   wpOpsSIn (FR none) 0 P (o0::l).toArray (Exit.thenS (rest.wpSIn (FR none) 0 P (bodyPostS P G c₀ cs fun e u2 w'=>e=.returned (.tuple #[])∧u2=u'∧∃ ι' ψ' S',dW ι ψ ι' ψ'∧cO w0 ι' ψ' S' w'∧K S')) (bodyPostS P G c₀ cs fun e u2 w'=>e=.returned (.tuple #[])∧u2=u'∧∃ ι' ψ' S',dW ι ψ ι' ψ'∧cO w0 ι' ψ' S' w'∧K S'))
    (yC 1 l.length) (Act.put { tmps:=cargs++bT (G.ntmps - cargs.size) undef,defers:=[] } (some d) rc) cs' w:=by
  intro cs' rc hrc hcs
  subst hcs
  refine vr l 1 _ env1 S S1 ι ψ _ w χ h12 hR (hE.put hrc h8) fun ι1 ψ1 a1 w1 e1 e2 e3=>?_
  refine wpSIn_of_wpIn rfl (wpIn_mono (h13 ι1 ψ1 w1 a1 e2 e3) fun e a2 w2 hp=>?_)
  obtain⟨ι2,ψ2,x,env2,S2,f1,f2,f3,f4,f5,f6,f7,f8⟩:=hp
  obtain⟨ds,dvs,d1,d2,d3,d4⟩:=f3.defers
  rw [f6] at d1;cases d1
  obtain rfl:dvs=[]:=kE.1 d2.symm
  have hx1:dW (ι1.take S.length) ψ1 ι2 ψ2:=f1
  have hx:dW ι ψ ι2 ψ2:=by
   refine⟨fun i p hp=>?_,eo.le_trans e1.psi hx1.psi⟩
   have hi:i<S.length:=by rw [← hR.len];exact(af.1 hp).1
   obtain⟨p1,k1,kb1,kg1,ke1⟩:=e1.pl i p hp
   obtain⟨p2,k2,kb2,kg2,ke2⟩:=hx1.pl i p1 (by rw [bc,if_pos hi];exact k1)
   refine⟨p2,k2,kb2.trans kb1,fc kg1 kg2,fun e=>?_⟩
   have:p.gen=p1.gen:=ω
   have:p1.gen=p2.gen:=ω
   rw [ke2 ω,ke1 ω]
  obtain⟨ψ3,k1,k2,k3⟩:=f2.leave S.length (fun j B hj hB=>by
   have:B.ltB S.length=true:=(f7 j B hj hB).elim (fun e=>hR.ltB e) (fun e=>e)
   cases B<;>first|exact this|(exact sB this)|trivial)
  have hfinal:∃ ι' ψ' S',dW ι ψ ι' ψ'∧cO w0 ι' ψ' S' w2∧K S':=by
   refine⟨ι2.take S.length,ψ3,_,⟨fun i p hp=>?_,eo.le_trans hx.psi k1⟩,k3,f8⟩
   obtain⟨p',e1,e2⟩:=hx.pl i p hp
   have:i<S.length:=by rw [← hR.len];exact(af.1 hp).1
   exact⟨p',by rw [bc,if_pos this];exact e1,e2⟩
  have hres:(results G a2.tmps).run P w2=.ok (.tuple #[]) w2:=by
   simp [results,h11]
  have hdef:a2.defers=[]:=by rw [d4];rfl
  rcases f5 with rfl|rfl
  ·cases e<;>simp only [XR] at f4
   exact⟨hdef,u',rfl,_,hres,rfl,rfl,hfinal⟩
  ·cases e<;>simp only [XR] at f4
   exact⟨hdef,u',rfl,_,hres,rfl,rfl,hfinal⟩
 refine wpSIn_seq (wpSIn_region ?_)
 rw [show bh (o0::l).toArray.size=0::yC 1 l.length by
  rw [List.range_eq_range'];simp [List.range'_succ]]
 simp only [wpOpsSIn]
 rw [show ((o0::l).toArray)[0]? = some o0 by simp]
 refine⟨fun _ _=>trivial, ?_⟩
 rw [if_pos (by simp [jK,h5])]
 have hex:∀ σ:Operand→Value,(execOp σ o0).run P w=.ok .recover w:=by
  intro σ
  simp [execOp,h4,resolve,invoke,builtin]
 rw [hex,h7]
 simp only [recoverD,hu]
 cases hm with
 | ret=>exact hfin _ _ .inil (by rw [← hu])
 | pan _ c hc=>exact hfin _ _ hc rfl
def uV(P:Program)(F:Func)(S0:List aH)(env:du)(R:gL→List aH→Prop)(S:List aH):Prop :=
 ∃ vs,gr P env S F.results.toList=some vs∧fV S0.length S0 S∧(conv S (fun a=>decide (S0.length≤a)) 4 (de vs)).lt S0.length=true∧R (.ret (conv S (fun a=>decide (S0.length≤a)) 4 (de vs))) (S.take S0.length)
def oG(P:Program)(w0:World)(F:Func)(S0:List aH)(R:gL→List aH→Prop):bU
 | .normal,env,S | .ret,env,S=>∃ g first cap,env DS=.dfr [.fn (.func g) first cap]∧wB P w0 g (first++cap) .inil S (uV P F S0 env R)
 | .panic v,env,S=>∃ g first cap,env DS=.dfr [.fn (.func g) first cap]∧wB P w0 g (first++cap) v S (uV P F S0 env R)
 | _,_,_=>False
theorem EC{f:FuncId}{F:Func}{c:Code}{args:List AV}{R:gL→List aH→Prop}(hf:P.funcs[f]? = some F)(hb:F.body=some c)(hname:(F.name == "runtime.NumGoroutine")=false)(hargs:args.length≤F.ntmps)(hbd:F.ntmps≤DS)
  (h0:bH S→aX P w0 S.length F.ntmps none [.it (.code c)] (oG P w0 F S R) .normal (dE args) S):ao P w0 f args S R:=by
 refine⟨fun a w=>by simp only [callFunc,co,run_program,cA,hf,hname,hb];rfl,fun ι ψ w cargs hR hl hv=>?_⟩
 have h:=h0 fun j B hB=>hR.ltB hB
 refine(callsIn_wide (n:=0)).1 ?_
 refine callsIn_of_wp_marks (F:=Fence.wide) hf hb trivial ?_
 have hE:fT ι ψ F.ntmps (dE args) { tmps:=cargs++bT (F.ntmps - cargs.size) undef,defers:=[] }:=by
  refine⟨κ,hbd,⟨[],[],by simp [dE],rfl,χ,rfl⟩,fun t=>?_⟩
  simp only [dE]
  split
  ·next ht =>
   have:(cargs++bT (F.ntmps - cargs.size) undef).getD t undef=undef:=by
    rw [aC,dg κ];rfl
   rw [this]
   exact .dfr [] [] rfl χ
  ·by_cases ht:t<args.length
   ·have e1:args[t]? = some args[t]:=ap ht
    have ht':t<cargs.size:=ω
    have e2:cargs[t]? = some cargs[t]:=bm ht'
    rw [e1,aC,lD ht',e2]
    exact hv t _ _ e1 e2
   ·rw [bR ω]
    exact .junk _
 refine wpIn_mono (h ι ψ w _ hR hE) fun e a' w' hp=>?_
 obtain⟨ι',ψ',x,env,S',h1,h2,h3,h4,h5⟩:=hp
 have hext:dW ι ψ ι' ψ':=by rw [← hR.len,bC] at h1;exact h1
 obtain⟨ds,dvs,d1,d2,d3,d4⟩:=h3.defers
 have go:∀ (u u':FrameMode) (rv:AV) (g:FuncId) (first cap:List AV),u≠.run→MR ι' ψ' rv u u'→settle u'=.returning→env DS=.dfr [.fn (.func g) first cap]→wB P w0 g (first++cap) rv S' (uV P F S env R) →
   LeavesInM Fence.wide 0 P F a'.tmps (fun e w'=>∃ ι' ψ' out S',dW ι ψ ι' ψ'∧cO w0 ι' ψ' S' w'∧nf ι' ψ' out e∧R out S') a'.defers u w':=by
  intro u u' rv g first cap hu hm hset hds hrun
  rw [hds] at d1;cases d1
  obtain⟨dv,rfl⟩:∃ dv,dvs=[dv]:=by
   match dvs,d2 with
   | [dv],_=>exact⟨dv,rfl⟩
  have hdv:=d3 0 _ dv rfl rfl
  cases hdv with
  | fn _ _ _ vf vc hl1 hl2 k1 k2 =>
   rw [d4]
   simp only [al,aj,wX,LeavesInM]
   obtain⟨q1,q2⟩:=zG (P:=P) hrun h2 hm (cargs:=vf++vc) (by simp [hl1,hl2]) (fun j x c hx hc=>by
    have hc':(vf.toList++vc.toList)[j]? = some c:=by
     rw [← bu] at hc
     simpa using hc
    by_cases hj:j<first.length
    ·rw [au hj] at hx
     rw [au κ] at hc'
     exact k1 j x c hx (by simpa using hc')
    ·rw [aA ω] at hx
     rw [aA κ] at hc'
     simp only [fk,← hl1] at hc'
     exact k2 _ x c hx (by simpa using hc'))
   refine⟨hu,.inr ⟨fun h=>by simp [Fence.wide] at h,.func g,vc,g,vf++vc,rfl,by simp only [invoke];exact q1 _ _,fun _ _=>trivial, ?_⟩⟩
   refine CallsDIn.mono q2 ?_
   rintro e2 u2 w2 ⟨rfl,rfl,ι2,ψ2,S2,e1,e2,vs,r1,r2,r3,r4⟩
   show LeavesInM _ _ _ _ _ _ [] (settle u2) w2
   rw [hset]
   have hE2:=h3.mono e1
   obtain⟨cs,q1,q2,q3⟩:=mL (P:=P) e2 hE2 _ vs r1
   have hrun:(results F a'.tmps).run P w2=.ok (if h:cs.toArray.size=1 then cs.toArray[0] else .tuple cs.toArray) w2:=by
    unfold results
    rw [yJ]
    simp only [co,Sem.run_map]
    erw [q1]
    rfl
   have hv:VR ι2 ψ2 (de vs) (if h:cs.toArray.size=1 then cs.toArray[0] else .tuple cs.toArray):=by
    match vs,cs,q2,q3 with
    | [],[],_,_=>exact .tup _ _ rfl χ
    | [v],[c],_,q3=>simpa [de] using q3 0 v c rfl rfl
    | v1::v2::vs,c1::c2::cs,q2,q3 =>
     simp only [de,iM,aB]
     rw [dif_neg ω]
     exact .tup _ _ (by simpa using q2) (fun j x c hx hc=>q3 j x c hx (by simpa using hc))
    | [],_::_,q2,_=>simp at q2
    | [_],[],q2,_=>simp at q2
    | [_],_::_::_,q2,_=>simp at q2
    | _::_::_,[],q2,_=>simp at q2
    | _::_::_,[_],q2,_=>simp at q2
   obtain⟨ψ3,k1,k2,k3⟩:=e2.leave S.length (fun j B hj hB=>by
    have:B.ltB S.length=true:=(r2 j B hj hB).elim (fun e=>hR.ltB e) id
    cases B<;>first|exact this|(exact sB this)|trivial)
   have qn:=hext.trans e1
   refine⟨_,hrun,ι2.take S.length,ψ3,.ret _,_,⟨fun i p hp=>?_,eo.le_trans qn.psi k1⟩,k3,(jk e2 k1 k2 4 _ _ hv).take r3,r4⟩
   obtain⟨p',e1,e2⟩:=qn.pl i p hp
   have:i<S.length:=by rw [← hR.len];exact(af.1 hp).1
   exact⟨p',by rw [bc,if_pos this];exact e1,e2⟩
 cases x with
 | normal =>
  cases e<;>simp only [XR] at h4
  obtain⟨g,first,cap,hds,hrun⟩:=h5
  exact go .returning .returning .inil g first cap χ .ret rfl hds hrun
 | ret =>
  cases e<;>simp only [XR] at h4
  obtain⟨g,first,cap,hds,hrun⟩:=h5
  exact go .returning .returning .inil g first cap χ .ret rfl hds hrun
 | exit id=>exact h5.elim
 | goto l=>exact h5.elim
 | panic v =>
  cases e<;>simp only [XR] at h4
  obtain⟨c,rfl,hv⟩:=h4
  obtain⟨g,first,cap,hds,hrun⟩:=h5
  exact go (.panicking [{ v:=c,recovered:=false }]) (.panicking [{ v:=c,recovered:=true }]) v g first cap χ (.pan v c hv) rfl hds hrun
section
variable {n0 N:Nat}{Q:bU}{k:List TI}{env:du}
theorem rz{all:Array Oper}{o:Oper}{l:List Oper}{fop:Operand}{tys:Array TypeId}{g:FuncId}{first cap ds:List AV}(hg:ce all env o=some true)(ho:o.op=.defer ⟨.value fop,#[],tys⟩)
  (hf:bo w0 env fop=.fn (.func g) first cap) (hds:env DS=.dfr ds) (hd:eV N o.dst=true)
  (h:aX P w0 n0 N none (.it (.ops all l)::k) Q .normal (putA (eY env DS (.dfr (.fn (.func g) first cap::ds))) o.dst (.tup [])) S):aX P w0 n0 N none (.it (.ops all (o::l))::k) Q .normal env S:=by
 intro ι ψ w a hR hE
 have hw:=da hE hg
 obtain⟨ds',dvs,d1,d2,d3,d4⟩:=hE.defers
 rw [hds] at d1;cases d1
 have hvf:=hE.eval hR fop
 rw [hf] at hvf
 generalize hcf:a.eval fop=cf at hvf
 have hvf0:=hvf
 cases hvf with
 | fn _ _ _ vf vc hl1 hl2 h1 h2 =>
  have hres:(o.semAt (FR none).round a.eval).run P w=.ok (.defer { target:=.fn (.func g) vc,args:=vf }) w:=by
   have hr:(FR none).round=none:=rfl
   rw [hr,Oper.semAt_none]
   simp [execOp,ho,resolve,hcf,Deferred.ofValue]
  show wpListIn (FR none) 0 P all _ (o::l) a w
  unfold wpListIn
  rw [if_pos hw]
  refine⟨fun _ _=>trivial, ?_⟩
  show Oper.uponIn _ _ _ _ _ _ _ _
  rw [hres]
  have hdf:∀ v,v=AV.dfr (.fn (.func g) first cap::ds)→VR ι ψ v undef:=by
   rintro v rfl
   refine .dfr _ (.func (.func g) vf vc::dvs) (by simp [d2]) fun j x v hx hv=>?_
   cases j with
   | zero=>simp at hx hv;subst hx;subst hv;exact hvf0
   | succ j=>exact d3 j x v (by simpa using hx) (by simpa using hv)
  have hE':fT ι ψ N (eY env DS (.dfr (.fn (.func g) first cap::ds))) { a with defers:={ target:=.fn (.func g) vc,args:=vf }::a.defers }:=by
   refine⟨hE.size,hE.bound,⟨.fn (.func g) first cap::ds,.func (.func g) vf vc::dvs,by simp [eY],by simp [d2],fun j x v hx hv=>?_,by simp [d4,wX]⟩,fun t=>?_⟩
   ·cases j with
    | zero=>simp at hx hv;subst hx;subst hv;exact hvf0
    | succ j=>exact d3 j x v (by simpa using hx) (by simpa using hv)
   ·simp only [eY]
    split
    ·next ht =>
     have:a.tmps.getD t undef=undef:=by
      rw [aC,dg (by rw [hE.size,ht];exact hE.bound)];rfl
     show VR _ _ _ (a.tmps.getD t undef)
     rw [this]
     exact hdf _ rfl
    ·exact hE.tmp t
  exact h ι ψ w _ hR (hE'.putA (.tup _ _ rfl χ) hd)
end
end Go.Fen
