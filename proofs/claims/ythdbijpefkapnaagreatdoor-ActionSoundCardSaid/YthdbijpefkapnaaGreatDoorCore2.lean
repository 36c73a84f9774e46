/- YthdbijpefkapnaaGreatDoorCore2. Texts of the proof of a law about texts: a layer of abstract values above the worlds, the types, the walks of the functions that the law reaches, the law and its card. Own work of an AI agent. -/
import Derived.Test.YthdbijpefkapnaaGreatDoorCore1
import Derived.TacticsIn
import Derived.OrdersIn
import Derived.RangeFuncIn
import Derived.RecoverIn
import Derived.Lib.Hide
import Derived.Laws.Externs
set_option linter.all false
set_option linter.unusedVariables false
set_option linter.unusedSimpArgs false
open Array renaming eq_empty_of_size_eq_zero → re, ext_getElem? → ma, getD_eq_getD_getElem? → aK, getElem?_append_left → lC, getElem?_eq_getElem → bN, getElem?_eq_none → dB, getElem?_map → lb, getElem?_setIfInBounds → ct, getElem?_toList → bR, isEmpty_eq_false_iff → tT, length_toList → fJ, mapM_eq_mapM_toList → yo, replicate → cr, size_pos_iff → Ci, toList_filter → AK, toList_inj → HU
open Bool renaming and_assoc → yh, and_eq_true → aB, and_false → cH, and_true → dh, false_and → bX, false_eq_true → du, false_or → kZ, not_eq_true' → ax, not_false → cE, not_true → cC, or_false → gh, true_and → cA
open Go.Instr renaming loadAt → nq, next → kL, sureAddr → eJ
open Go.Op renaming operands → bV
open Go.Region renaming binds → eS, free_spec → EF, ready → c_, wanted → jO
open Go.Result renaming andThen_ok → dd
open Go.RowKit.Below renaming refl → Ch
open Go.Sem renaming run → qt, run_bind → cS, run_pure → gC
open Go.World renaming alloc_heap_new → ka, putObj → nN, putObj_heap_same → eD
open List renaming all_cons → AG, all_eq_true → aF, any_cons → fo, any_nil → gG, append_assoc → ai, append_nil → aP, cons_append → al, drop_succ_cons → af, drop_zero → aq, eq_nil_of_length_eq_zero → cL, eraseIdx_cons_succ → yf, filter_cons → gP, find?_cons → lc, flatMap_cons → kY, foldl_cons → h_, getElem?_append_left → aJ, getElem?_append_right → aM, getElem?_eq_getElem → aC, getElem?_eq_none → cT, getElem?_eq_some_iff → aw, getElem?_map → aQ, getElem?_of_mem → bh, getElem?_set_ne → cN, getElem?_take → bu, getElem?_toArray → gJ, length → lz, length_append → ab, length_cons → ah, length_eq_zero_iff → ib, length_eraseIdx_of_lt → uL, length_map → bB, length_nil → aj, map_append → co, map_cons → aG, map_nil → aL, mem_append_left → ly, mem_append_right → dR, mem_cons → dj, mem_filter → qU, mem_filterMap → tw, mem_map → aX, mem_map_of_mem → dq, mem_of_find?_eq_some → qu, mem_of_getElem? → aI, mem_singleton → bC, nil_append → ap, nodup_cons → pJ, range → bJ, range' → qT, range'_succ → wv, range_eq_range' → Iv, set_append_right → ef, size_toArray → fj, take_length → bQ, take_of_length_le → dW, take_succ_cons → ae, take_take → tq, take_zero → ao, toList_toArray → aU
open Nat renaming add_sub_cancel_left → Cn, add_zero → nP, le_refl → bg, le_trans → fb, lt_of_not_le → wk, mod_lt → fa, strongRecOn → Hw, zero_add → dw, zero_le → bI, zero_lt_succ → gg
open Option renaming bind_some → Iu, getD_some → ER, isSome_none → Cb, isSome_some → Ca, map_eq_some_iff → aW, map_none → kj, map_some → dF
open Option.some renaming injEq → bM
namespace Go.Fen
open Go.RowKit
inductive AX where
 | normal | exit (id:Nat) | goto (l:Nat) | ret | panic (v:AV)
inductive ed where
 | ret (v:AV) | panic (v:AV)
def XR (ι:List Pl) (ψ:eA):AX→Exit→Prop
 | .normal,.normal=>True
 | .exit i,.exit j=>i=j
 | .goto i,.goto j=>i=j
 | .ret,.ret=>True
 | .panic v,.panic ch=>∃ c,ch=[{ v:=c,recovered:=false }]∧VR ι ψ v c
 | _,_=>False
def nh (ι:List Pl) (ψ:eA):ed→Ending→Prop
 | .ret v,.returned c=>VR ι ψ v c
 | .panic v,.panicked ch=>∃ c,ch=[{ v:=c,recovered:=false }]∧VR ι ψ v c
 | _,_=>False
abbrev dK:=Nat→AV
abbrev cR:=AX→dK→List aH→Prop
def lw (w0:World) (n0 N:Nat) (ι:List Pl) (ψ:eA) (Q:cR) (e:Exit) (a:Act) (w:World):Prop :=
 ∃ ι' ψ' x env S,d_ (ι.take n0) ψ ι' ψ'∧di w0 ι' ψ' S w∧gr ι' ψ' N env a∧XR ι' ψ' x e∧Q x env S
inductive KI where
 | code (c:Code)
 | ops (all:Array Oper) (l:List Oper)
 | lp (c:Code)
def FR (r:Option Nat):Fence:={ Fence.wide with round:=r }
theorem oD {r:Option Nat}{n:Nat}{P:Program}{f:FuncId}{args:Array Value}{w:World}{R:Ending→World→Prop} (h:Calls P f args w R):CallsIn (FR r) n P f args w R :=
 (callsIn_wide (n:=n)).2 h
theorem vg (r:Option Nat) (n:Nat):(FR r).room n:=fun _ h=>by simp [FR,Fence.wide] at h
theorem sO (r:Option Nat){n:Nat}:(FR r).depth.isSome=true→1≤n:=fun h=>by simp [FR,Fence.wide] at h
def LW (P:Program) (r:Option Nat) (Q:Exit→Act→World→Prop) (c:Code) (a:Act) (w:World):Prop :=
 ∀ (b:Frame) (k:List Item) (cs:List Frame),b.roundOf=r→∃ e a' w',Q e a' w'∧ArrivesIn (Machine.fenced P (FR r)) P (lone (b.atR a (.inLoop c::k)) cs w) b k cs e a' w'
theorem LW.round {P:Program}{r:Option Nat}{Q:Exit→Act→World→Prop}{c:Code}{a:Act}{w:World} (h:c.wpIn (FR r) 0 P (Exit.then (LW P r Q c) Q) a w) (b:Frame) (k:List Item) (cs:List Frame) (hb:b.roundOf=r) :
  ∃ e a' w',Q e a' w'∧ArrivesIn (Machine.fenced P (FR r)) P (lone (b.atR a (.code c::.inLoop c::k)) cs w) b k cs e a' w':=by
 obtain⟨e,a₁,w₁,hq,harr⟩:=h b (.inLoop c::k) cs hb trivial (vg _ _)
 cases e with
 | normal =>
  obtain⟨e2,a2,w2,hq2,harr2⟩:=hq b k cs hb
  exact⟨e2,a2,w2,hq2,.of_steps harr harr2⟩
 | exit id=>exact⟨_,a₁,w₁,hq,.pass (x:=.inLoop c) rfl (fun _ _=>.inl (by simp)) harr⟩
 | goto l=>exact⟨_,a₁,w₁,hq,.pass (x:=.inLoop c) rfl (fun _ _=>.inl (by simp)) harr⟩
 | ret=>exact⟨_,a₁,w₁,hq,.pass (x:=.inLoop c) rfl (fun _ _=>.inl (by simp)) harr⟩
 | panic ch=>exact⟨_,a₁,w₁,hq,.pass (x:=.inLoop c) rfl (fun _ _=>.inl (by simp)) harr⟩
 | outgrown=>exact⟨_,a₁,w₁,hq,.pass (x:=.inLoop c) rfl (fun _ _=>.inl (by simp)) harr⟩
theorem LW.head {P:Program}{r:Option Nat}{Q:Exit→Act→World→Prop}{c:Code}{a:Act}{w:World} (h:c.wpIn (FR r) 0 P (Exit.then (LW P r Q c) Q) a w):LW P r Q c a w:=by
 intro b k cs hb
 obtain⟨e,a',w',hq,harr⟩:=LW.round h b k cs hb
 exact⟨e,a',w',hq,.of_steps (.one (fenced_calm (n:=0) (fr:=b.atR a (.inLoop c::k)) trivial (vg _ _) rfl) stepR_inLoop) harr⟩
theorem LW.loop {P:Program}{r:Option Nat}{Q:Exit→Act→World→Prop}{c:Code}{a:Act}{w:World} (h:c.wpIn (FR r) 0 P (Exit.then (LW P r Q c) Q) a w):(Code.loop c).wpIn (FR r) 0 P Q a w:=by
 intro b k cs hb _ _
 obtain⟨e,a',w',hq,harr⟩:=LW.round h b k cs hb
 exact⟨e,a',w',hq,.of_steps (.one (fenced_calm (n:=0) (fr:=b.atR a (.code (.loop c)::k)) trivial (vg _ _) rfl) stepR_loop) harr⟩
theorem LW.mono {P:Program}{r:Option Nat}{Q Q':Exit→Act→World→Prop}{c:Code}{a:Act}{w:World} (h:LW P r Q c a w) (hq:∀ e a w,Q e a w→Q' e a w):LW P r Q' c a w :=
 fun b k cs hb=>let ⟨e,a',w',q,r⟩:=h b k cs hb;⟨e,a',w',hq _ _ _ q,r⟩
def KI.wp (P:Program) (r:Option Nat) (Q:Exit→Act→World→Prop):KI→Act→World→Prop
 | .code c,a,w=>c.wpIn (FR r) 0 P Q a w
 | .lp c,a,w=>LW P r Q c a w
 | .ops all l,a,w=>wpListIn (FR r) 0 P all Q l a w
theorem tU {P:Program}{F:Fence}{n:Nat}{o:Oper}{a:Act}{K K':Act→World→Prop}{Q Q':Exit→Act→World→Prop} (hk:∀ a w,K a w→K' a w) (hq:∀ e a w,Q e a w→Q' e a w) :
  ∀ r,o.uponIn F n P a K Q r→o.uponIn F n P a K' Q' r:=by
 intro r h
 unfold Oper.uponIn at h ⊢
 split at h
 ·exact hk _ _ h
 ·exact hk _ _ h
 ·exact hk _ _ h
 ·refine⟨h.1,h.2.mono fun e w' he=>?_⟩
  cases e with
  | returned v=>exact hk _ _ he
  | panicked ch=>exact hq _ _ _ he
  | outgrown=>obtain⟨a₀,w₀,h0⟩:=he;exact⟨a₀,w₀,hq _ _ _ h0⟩
 ·exact⟨h.1,h.2.mono fun v w' he=>hk _ _ he⟩
 ·refine⟨h.1,h.2.mono fun e w' he=>?_⟩
  cases e with
  | returned v=>exact hk _ _ he
  | panicked ch=>exact hq _ _ _ he
  | outgrown=>obtain⟨a₀,w₀,h0⟩:=he;exact⟨a₀,w₀,hq _ _ _ h0⟩
 ·exact hq _ _ _ h
 ·exact h.elim
theorem p6 {P:Program}{F:Fence}{all:Array Oper}{Q Q':Exit→Act→World→Prop} (hq:∀ e a w,Q e a w→Q' e a w):∀ (l:List Oper) (a:Act) (w:World),wpListIn F 0 P all Q l a w→wpListIn F 0 P all Q' l a w
 | [],_,_,h=>hq _ _ _ h
 | o::l,a,w,h=>by
  unfold wpListIn at h ⊢
  split
  ·next hw =>
   rw [if_pos hw] at h
   exact⟨h.1,tU (p6 hq l) hq _ h.2⟩
  ·next hw =>
   rw [if_neg hw] at h
   exact⟨h.1,p6 hq l _ _ h.2⟩
theorem KI.mono {P:Program}{r:Option Nat}{it:KI}{Q Q':Exit→Act→World→Prop}{a:Act}{w:World} (h:it.wp P r Q a w) (hq:∀ e a w,Q e a w→Q' e a w):it.wp P r Q' a w:=by
 cases it with
 | code c=>exact wpIn_mono h hq
 | lp c=>exact LW.mono h hq
 | ops all l=>exact p6 hq l a w h
theorem ew {P:Program}{r:Option Nat}{all:Array Oper}{Q:Exit→Act→World→Prop}{o:Oper}{l:List Oper}{a:Act}{w:World} (hw:jO o (yielded all a.tmps)=true) (hd:∀ c,o.op≠.defer c)
  (h:o.uponIn (FR r) 0 P a (wpListIn (FR r) 0 P all Q l) Q ((execOp a.eval o).run P w)):wpListIn (FR r) 0 P all Q (o::l) a w:=by
 unfold wpListIn
 rw [if_pos hw]
 refine⟨fun _ _=>trivial, ?_⟩
 rw [Oper.semAt_eq _ _ _ hd];exact h
theorem uO {P:Program}{r:Option Nat}{all:Array Oper}{Q:Exit→Act→World→Prop}{o:Oper}{l:List Oper}{a:Act}{w:World} (hw:jO o (yielded all a.tmps)=false)
  (h:wpListIn (FR r) 0 P all Q l (a.put o.dst undef) w):wpListIn (FR r) 0 P all Q (o::l) a w:=by
 unfold wpListIn
 rw [if_neg (by rw [hw];simp)]
 exact⟨fun _ _=>trivial,h⟩
def WP (P:Program) (w0:World) (n0 N:Nat) (r:Option Nat) (it:KI) (Q:cR) (env:dK) (S:List aH):Prop :=
 ∀ ι ψ w a,di w0 ι ψ S w→gr ι ψ N env a→it.wp P r (lw w0 n0 N ι ψ Q) a w
inductive TI where
 | it (i:KI)
 | blk (id:Nat)
def ba (P:Program) (w0:World) (n0 N:Nat) (r:Option Nat):List TI→cR→cR
 | [],Q=>Q
 | .it i::k,Q=>fun x env S=>match x with
  | .normal=>WP P w0 n0 N r i (ba P w0 n0 N r k Q) env S
  | x=>ba P w0 n0 N r k Q x env S
 | .blk id::k,Q=>fun x env S=>match x with
  | .exit j=>if j=id then ba P w0 n0 N r k Q .normal env S else ba P w0 n0 N r k Q (.exit j) env S
  | x=>ba P w0 n0 N r k Q x env S
section
variable {P:Program}{w0:World}{n0 N:Nat}{r:Option Nat}{Q:cR}{k:List TI}{env:dK}{S:List aH}
theorem d_.take {ι ι':List Pl}{ψ ψ':eA} (h:d_ ι ψ ι' ψ') (n:Nat):d_ (ι.take n) ψ ι' ψ' :=
 ⟨fun i p hp=>h.pl i p (by rw [bu] at hp;split at hp;exact hp;cases hp),h.psi⟩
theorem d_.chain {ι ι' ι'':List Pl}{ψ ψ' ψ'':eA}{n:Nat} (h:d_ (ι.take n) ψ ι' ψ') (h2:d_ (ι'.take n) ψ' ι'' ψ''):d_ (ι.take n) ψ ι'' ψ'':=by
 refine⟨fun i p hp=>?_,eA.le_trans h.psi h2.psi⟩
 have hi:i<n:=by have:=(aw.1 hp).1;simp at this;omega
 obtain⟨p1,h1,hb1,hg1,he1⟩:=h.pl i p hp
 obtain⟨p2,h2,hb2,hg2,he2⟩:=h2.pl i p1 (by rw [bu,if_pos hi];exact h1)
 refine⟨p2,h2,hb2.trans hb1,fb hg1 hg2,fun e=>?_⟩
 have e1:p.gen=p1.gen:=by omega
 have e2:p1.gen=p2.gen:=by omega
 rw [he2 e2,he1 e1]
theorem lw.chain {ι ι':List Pl}{ψ ψ':eA}{e:Exit}{a:Act}{w:World} (h:d_ (ι.take n0) ψ ι' ψ') (hp:lw w0 n0 N ι' ψ' Q e a w):lw w0 n0 N ι ψ Q e a w:=by
 obtain⟨ι2,ψ2,x,env,S,h1,h2,h3,h4,h5⟩:=hp
 exact⟨ι2,ψ2,x,env,S,h.chain h1,h2,h3,h4,h5⟩
theorem lw.here {ι:List Pl}{ψ:eA}{e:Exit}{a:Act}{w:World}{x:AX} (hR:di w0 ι ψ S w) (hE:gr ι ψ N env a) (hx:XR ι ψ x e) (hq:Q x env S):lw w0 n0 N ι ψ Q e a w :=
 ⟨ι,ψ,x,env,S,(d_.refl ι ψ).take n0,hR,hE,hx,hq⟩
theorem cW (h:ba P w0 n0 N r k Q .normal env S):ba P w0 n0 N r (.it (.code .skip)::k) Q .normal env S :=
 fun _ _ _ _ hR hE=>wpIn_skip (lw.here hR hE (x:=.normal) trivial h)
theorem cX {id:Nat} (h:ba P w0 n0 N r k Q (.exit id) env S):ba P w0 n0 N r (.it (.code (.exit id))::k) Q .normal env S :=
 fun _ _ _ _ hR hE=>wpIn_exit (lw.here hR hE (x:=.exit id) rfl h)
theorem dN (h:ba P w0 n0 N r k Q .ret env S):ba P w0 n0 N r (.it (.code .ret)::k) Q .normal env S :=
 fun _ _ _ _ hR hE=>wpIn_ret (lw.here hR hE (x:=.ret) trivial h)
theorem dM {c d:Code} (h:ba P w0 n0 N r (.it (.code c)::.it (.code d)::k) Q .normal env S):ba P w0 n0 N r (.it (.code (.seq c d))::k) Q .normal env S:=by
 intro ι ψ w a hR hE
 refine wpIn_seq (wpIn_mono (h ι ψ w a hR hE) fun e a' w' hp=>?_)
 obtain⟨ι',ψ',x,env',S',h1,h2,h3,h4,h5⟩:=hp
 have h40:=h4
 cases x with
 | normal =>
  cases e<;>simp only [XR] at h4
  exact wpIn_mono (h5 ι' ψ' w' a' h2 h3) fun e2 a2 w2 hp2=>hp2.chain h1
 | _ =>
  cases e<;>simp only [XR] at h4<;>exact⟨ι',ψ',_,env',S',h1,h2,h3,h40,h5⟩
theorem yp {c:Operand}{d e:Code}{t:Bool} (hc:bK w0 env c=.bool t) (h:ba P w0 n0 N r (.it (.code (if t then d else e))::k) Q .normal env S):ba P w0 n0 N r (.it (.code (.cond c d e))::k) Q .normal env S:=by
 intro ι ψ w a hR hE
 have:=hE.eval hR c
 rw [hc] at this
 exact wpIn_cond this.bool_inv (h ι ψ w a hR hE)
theorem cj {id:Nat}{c:Code} (h:ba P w0 n0 N r (.it (.code c)::.blk id::k) Q .normal env S):ba P w0 n0 N r (.it (.code (.block id c))::k) Q .normal env S:=by
 intro ι ψ w a hR hE
 refine wpIn_block (wpIn_mono (h ι ψ w a hR hE) fun e a' w' hp=>?_)
 obtain⟨ι',ψ',x,env',S',h1,h2,h3,h4,h5⟩:=hp
 have h40:=h4
 cases x with
 | exit j =>
  cases e<;>simp only [XR] at h4
  subst h4
  simp only [ba] at h5
  simp only [Exit.inBlock]
  split at h5
  ·next hj=>rw [if_pos hj];exact⟨ι',ψ',.normal,env',S',h1,h2,h3,trivial,h5⟩
  ·next hj=>rw [if_neg hj];exact⟨ι',ψ',.exit j,env',S',h1,h2,h3,rfl,h5⟩
 | _ =>
  cases e<;>simp only [XR] at h4<;>exact⟨ι',ψ',_,env',S',h1,h2,h3,h40,h5⟩
theorem zN {c:Code}{ι:List Pl}{ψ:eA}{w:World}{a:Act} (h:ba P w0 n0 N r (.it (.code c)::.it (.lp c)::k) Q .normal env S) (hR:di w0 ι ψ S w) (hE:gr ι ψ N env a) :
  c.wpIn (FR r) 0 P (Exit.then (LW P r (lw w0 n0 N ι ψ (ba P w0 n0 N r k Q)) c) (lw w0 n0 N ι ψ (ba P w0 n0 N r k Q))) a w:=by
 refine wpIn_mono (h ι ψ w a hR hE) fun e a' w' hp=>?_
 obtain⟨ι',ψ',x,env',S',h1,h2,h3,h4,h5⟩:=hp
 have h40:=h4
 cases x with
 | normal =>
  cases e<;>simp only [XR] at h4
  exact LW.mono (h5 ι' ψ' w' a' h2 h3) fun e2 a2 w2 hp2=>hp2.chain h1
 | _ =>
  cases e<;>simp only [XR] at h4<;>exact⟨ι',ψ',_,env',S',h1,h2,h3,h40,h5⟩
theorem eg {c:Code} (h:ba P w0 n0 N r (.it (.code c)::.it (.lp c)::k) Q .normal env S):ba P w0 n0 N r (.it (.lp c)::k) Q .normal env S :=
 fun _ _ _ _ hR hE=>LW.head (zN h hR hE)
theorem cP {c:Code} (h:ba P w0 n0 N r (.it (.code c)::.it (.lp c)::k) Q .normal env S):ba P w0 n0 N r (.it (.code (.loop c))::k) Q .normal env S :=
 fun _ _ _ _ hR hE=>LW.loop (zN h hR hE)
theorem bD {id:Nat}{ops:Array Oper} (h:ba P w0 n0 N r (.it (.ops ops ops.toList)::k) Q .normal env S):ba P w0 n0 N r (.it (.code (.region id ops false))::k) Q .normal env S :=
 fun ι ψ w a hR hE=>wpIn_region_list (h ι ψ w a hR hE)
theorem bv {all:Array Oper} (h:ba P w0 n0 N r k Q .normal env S):ba P w0 n0 N r (.it (.ops all [])::k) Q .normal env S :=
 fun _ _ _ _ hR hE=>lw.here hR hE (x:=.normal) trivial h
def putA (env:dK) (d:Option Nat) (v:AV):dK :=
 match d with
 | some t=>eO env t v
 | none=>env
def cG (all:Array Oper) (env:dK) (o:Oper):Option Bool :=
 match o.guard with
 | none=>some true
 | some (j,want)=>match all[j]? with
  | some oj=>match oj.dst with
   | some d=>match env d with
    | .bool b=>some (b==want)
    | .tup []=>some false
    | _=>none
   | none=>none
  | none=>none
def fg (N:Nat):Option Nat→Bool
 | some d=>decide (d<N)
 | none=>true
theorem gr.putA {ι:List Pl}{ψ:eA}{a:Act}{d:Option Nat}{v:AV}{c:Value} (h:gr ι ψ N env a) (hv:VR ι ψ v c) (hd:fg N d=true):gr ι ψ N (putA env d v) (a.put d c):=by
 cases d with
 | none=>exact h
 | some t=>exact h.put hv (by simpa [fg] using hd)
theorem dt {ι:List Pl}{ψ:eA}{all:Array Oper}{o:Oper}{a:Act}{b:Bool} (hE:gr ι ψ N env a) (h:cG all env o=some b):jO o (yielded all a.tmps)=b:=by
 unfold cG at h
 unfold jO
 cases hg:o.guard with
 | none=>simp [hg] at h;exact h.symm
 | some p =>
  obtain⟨j,want⟩:=p
  simp only [hg] at h ⊢
  split at h
  ·next oj hj =>
   split at h
   ·next d hd =>
    split at h
    ·next b' hb =>
     simp at h;subst h
     have ht:=hE.tmp d
     rw [hb] at ht
     have ht:=ht.bool_inv
     have hlt:d<a.tmps.size:=by
      refine wk fun hge=>?_
      rw [aK,dB hge] at ht
      cases ht
     have hgt:a.tmps[d]? = some (.bool b'):=by
      rw [aK,bN hlt] at ht
      simp at ht
      rw [bN hlt,ht]
     simp [yielded,hj,hd,hgt]
    ·next hb =>
     simp at h;subst h
     have ht:=hE.tmp d
     rw [hb] at ht
     generalize hc:a.tmps.getD d undef=c at ht
     cases ht with
     | tup _ vs hl _ =>
      have hy:yielded all a.tmps j=none:=by
       simp only [yielded,hj,hd,Iu]
       rw [aK] at hc
       cases hq:a.tmps[d]? with
       | none=>rfl
       | some q=>rw [hq] at hc;simp at hc;subst hc;rfl
      simp [hy]
    ·cases h
   ·cases h
  ·cases h
theorem cF {all:Array Oper}{o:Oper}{l:List Oper}{v:AV}{S':List aH} (hg:cG all env o=some true) (hs:en P S (bK w0 env) o.op=some (v,S')) (hd:fg N o.dst=true)
  (h:ba P w0 n0 N r (.it (.ops all l)::k) Q .normal (putA env o.dst v) S'):ba P w0 n0 N r (.it (.ops all (o::l))::k) Q .normal env S:=by
 intro ι ψ w a hR hE
 obtain⟨ι',ψ',w',nx,cv,h1,h2,h3,h4,h5⟩:=mI hR (fun x=>hE.eval hR x) hs
 have hw:=dt hE hg
 refine ew hw (fun c hc=>by rw [hc] at hs;simp [en,gw] at hs) ?_
 have hnext:wpListIn (FR r) 0 P all (lw w0 n0 N ι ψ (ba P w0 n0 N r k Q)) l (a.put o.dst cv) w' :=
  KI.mono (it:=.ops all l) (h ι' ψ' w' _ h4 ((hE.mono h3).putA h5 hd)) fun e a2 w2 hp=>hp.chain (h3.take n0)
 rw [h1]
 rcases h2 with rfl | ⟨rfl,rfl⟩
 ·exact hnext
 ·exact hnext
theorem bi {all:Array Oper}{o:Oper}{l:List Oper} (hg:cG all env o=some false) (hd:fg N o.dst=true)
  (h:ba P w0 n0 N r (.it (.ops all l)::k) Q .normal (putA env o.dst (.tup [])) S):ba P w0 n0 N r (.it (.ops all (o::l))::k) Q .normal env S:=by
 intro ι ψ w a hR hE
 have hw:=dt hE hg
 refine uO hw ?_
 exact h ι ψ w _ hR (hE.putA (.tup _ _ rfl (by simp)) hd)
def az (P:Program) (w0:World) (f:FuncId) (args:List AV) (S:List aH) (R:ed→List aH→Prop):Prop :=
 (∀ (a:Array Value) (w:World),(callFunc f a).run P w=.ok (.enter f a) w) ∧
 ∀ ι ψ w (cargs:Array Value),di w0 ι ψ S w→args.length=cargs.size→(∀ (j:Nat) (x:AV) (c:Value),args[j]? = some x→cargs[j]? = some c→VR ι ψ x c) →
  Calls P f cargs w fun e w'=>∃ ι' ψ' out S',d_ ι ψ ι' ψ'∧di w0 ι' ψ' S' w'∧nh ι' ψ' out e∧R out S'
theorem az.mono {f:FuncId}{args:List AV}{R R':ed→List aH→Prop} (h:az P w0 f args S R) (hr:∀ o S',R o S'→R' o S'):az P w0 f args S R' :=
 ⟨h.1,fun ι ψ w cargs hR hl hv=>(h.2 ι ψ w cargs hR hl hv).mono fun _ _ ⟨ι',ψ',out,S',h1,h2,h3,h4⟩=>⟨ι',ψ',out,S',h1,h2,h3,hr _ _ h4⟩⟩
def aR (P:Program) (w0:World) (n0 N:Nat) (r:Option Nat) (all:Array Oper) (l:List Oper) (k:List TI) (Q:cR) (env:dK) (dst:Option Nat):ed→List aH→Prop
 | .ret v,S=>ba P w0 n0 N r (.it (.ops all l)::k) Q .normal (putA env dst v) S
 | .panic v,S=>ba P w0 n0 N r k Q (.panic v) env S
def dS (S:List aH) (a:Nat):List aH :=
 match S[a]? with
 | some (.arr e sz _ g els)=>S.set a (.arr e sz els.length g els)
 | some (.mp false es)=>S.set a (.mp true es)
 | _=>S
def y9 (S:List aH) (a:Nat):Bool :=
 match S[a]? with
 | some (.arr _ _ fz _ els)=>fz==els.length
 | some (.mp fz _)=>fz
 | _=>false
theorem ks {ι:List Pl}{ψ:eA}{w:World} (h:di w0 ι ψ S w) (a:Nat):∃ ψ',ψ.le ψ'∧di w0 ι ψ' (dS S a) w:=by
 unfold dS
 split
 ·next e sz fz g els hS=>exact h.share hS
 ·next es hS=>exact h.freezeM hS
 ·exact⟨ψ,eA.le_refl _,h⟩
theorem jt {ι:List Pl}{w:World}:∀ (l:List Nat) (S:List aH) (ψ:eA),di w0 ι ψ S w→∃ ψ',ψ.le ψ'∧di w0 ι ψ' (l.foldl dS S) w
 | [],_,ψ,h=>⟨ψ,eA.le_refl _,h⟩
 | a::l,S,_,h=>by
  obtain⟨ψ1,h1,h2⟩:=ks h a
  obtain⟨ψ2,h3,h4⟩:=jt l _ ψ1 h2
  exact⟨ψ2,eA.le_trans h1 h3,h4⟩
theorem kT {ι:List Pl}{ψ:eA}{w:World} (h:di w0 ι ψ S w):zA w ι ψ S (y9 S):=by
 intro a pl B hfa hB hpl
 cases B with
 | cells cs ty=>simp [y9,hB] at hfa
 | arr e sz fz g els =>
  simp [y9,hB] at hfa
  intro kb j hk hj
  obtain⟨⟨hgen,hpsz⟩,hsize,hpos,hfz,⟨xs,hown,hxs⟩,_⟩:=h.blk a _ pl hB hpl
  obtain⟨_,v,hv,_,hro⟩:=hxs j _ (aC (show j<(eH els).length by rw [ei hsize];exact hj))
  rw [hro (by rw [hfa];exact hj) kb hk]
  have:=hown.cells (g:=kb) hk j v hv
  rw [Addr.add_lit,dw] at this;exact this.symm
 | mp fz es =>
  simp [y9,hB] at hfa
  subst hfa
  obtain⟨h0,hn,⟨me,ck,l,h1,h2,h3,h4,h5⟩,h6⟩:=h.blk a _ pl hB hpl
  exact⟨me,ck,h1,by simpa using h5⟩
 | loop st pend N tm ps asg body=>trivial
 | mit cur rest=>trivial
 | obj o=>trivial
 | dead=>trivial
theorem IA {all:Array Oper}{o:Oper}{l:List Oper}{fop:Operand}{args:Array Operand}{tys:Array TypeId}{f:FuncId}{first cap:List AV} (sh:List Nat)
  (hg:cG all env o=some true) (ho:o.op=.call ⟨.value fop,args,tys⟩) (hf:bK w0 env fop=.fn (.func f) first cap) (hd:fg N o.dst=true)
  (h:az P w0 f ((first++args.toList.map (bK w0 env)++cap).map (conv (sh.foldl dS S) (y9 (sh.foldl dS S)) 4)) (sh.foldl dS S) (aR P w0 n0 N r all l k Q env o.dst)) :
  ba P w0 n0 N r (.it (.ops all (o::l))::k) Q .normal env S:=by
 intro ι ψ w a hR hE
 have hw:=dt hE hg
 refine ew hw (fun c hc=>by rw [hc] at ho;cases ho) ?_
 obtain⟨ψ1,hle,hR1⟩:=jt (w0:=w0) sh S ψ hR
 have hE1:gr ι ψ1 N env a:=hE.mono ⟨(d_.refl ι ψ).pl,hle⟩
 have hfr:=kT hR1
 have hvf:=hE1.eval hR1 fop
 rw [hf] at hvf
 generalize hcf:a.eval fop=cf at hvf
 cases hvf with
 | fn _ _ _ vf vc hl1 hl2 h1 h2 =>
  have hres:(execOp a.eval o).run P w=.ok (.enter f (vf++args.map a.eval++vc)) w:=by
   simp [execOp,ho,resolve,hcf,Deferred.ofValue,invoke,h.1]
  rw [hres]
  refine⟨fun h=>sO r h,oD (r:=r) ?_⟩
  refine(h.2 ι ψ1 w (vf++args.map a.eval++vc) hR1 (by simp [hl1,hl2]) ?_).mono ?_
  ·intro j x c hx hc
   rw [aQ,aW] at hx
   obtain⟨y,hy,rfl⟩:=hx
   refine jm hR1 (eA.le_refl _) hfr 4 y c ?_
   have hc':(vf.toList++args.toList.map a.eval++vc.toList)[j]? = some c:=by
    rw [← bR] at hc
    simpa using hc
   by_cases hj1:j<first.length
   ·rw [ai,aJ hj1] at hy
    rw [ai,aJ (by simp;omega)] at hc'
    exact h1 j y c hy (by simpa using hc')
   ·by_cases hj2:j<first.length+args.size
    ·rw [ai,aM (by omega),aJ (by simp;omega)] at hy
     rw [ai,aM (by simp;omega),aJ (by simp;omega)] at hc'
     simp only [fJ,← hl1,aQ,aW] at hy hc'
     obtain⟨z,hz,rfl⟩:=hy
     obtain⟨z',hz',rfl⟩:=hc'
     rw [hz] at hz';cases hz'
     exact hE1.eval hR1 z
    ·rw [aM (by simp;omega)] at hy
     rw [aM (by simp;omega)] at hc'
     simp only [ab,bB,fJ,← hl1] at hy hc'
     exact h2 _ y c hy (by simpa using hc')
  ·rintro e w' ⟨ι',ψ',out,S',e1,e2,e3,e4⟩
   have hx:d_ ι ψ ι' ψ':=(show d_ ι ψ ι ψ1 from ⟨(d_.refl ι ψ).pl,hle⟩).trans e1
   cases out with
   | ret v =>
    cases e<;>simp only [nh] at e3
    exact KI.mono (it:=.ops all l) (e4 ι' ψ' w' _ e2 ((hE1.mono e1).putA e3 hd)) fun e a2 w2 hp=>hp.chain (hx.take n0)
   | panic v =>
    cases e<;>simp only [nh] at e3
    exact⟨ι',ψ',.panic v,env,S',hx.take n0,e2,hE1.mono e1,e3,e4⟩
theorem b_ {all:Array Oper}{o:Oper}{l:List Oper}{x:Operand}{t:TypeId}{v:AV} (hg:cG all env o=some true) (ho:o.op=.panic x) (hx:bK w0 env x=.ifc t v)
  (h:ba P w0 n0 N r k Q (.panic (.ifc t v)) env S):ba P w0 n0 N r (.it (.ops all (o::l))::k) Q .normal env S:=by
 intro ι ψ w a hR hE
 have hw:=dt hE hg
 refine ew hw (fun c hc=>by rw [hc] at ho;cases ho) ?_
 have hv:=hE.eval hR x
 rw [hx] at hv
 have hv0:=hv
 generalize hc:a.eval x=c at hv
 cases hv with
 | ifc _ _ c' hc' =>
  have hres:(execOp a.eval o).run P w=.halt (.panic (.iface t c')) w:=by
   simp [execOp,ho,hc,Instr.panic]
  rw [hres]
  exact⟨ι,ψ,.panic (.ifc t v),env,S,(d_.refl ι ψ).take n0,hR,hE,⟨_,rfl,by rw [hc] at hv0;exact hv0⟩,h⟩
theorem Ct {i:KI} (n:Nat) (env':dK) (hn:n0≤n) (hds:env' DS=env DS) (he:∀ t,env' t=.junk∨(env' t=env t∧(env t).lt n=true))
  (hS:∀ (j:Nat) (B:aH),j<n→S[j]? = some B→match B with
   | .cells cs _=>ltL n cs=true
   | .arr _ _ _ _ els=>ltL n els=true
   | .obj _=>True
   | .loop _ _ _ tm _ _ _=>tm.all (fun p=>p.2.lt n)=true
   | .mp _ es=>nC n es=true
   | .mit cur es=>nC n es=true∧∀ e,cur=some e→e.1.lt n=true∧e.2.lt n=true
   | .dead=>True)
  (h:ba P w0 n0 N r (.it i::k) Q .normal env' (S.take n)):ba P w0 n0 N r (.it i::k) Q .normal env S:=by
 intro ι ψ w a hR hE
 obtain⟨ψ',hle,_,hR'⟩:=hR.leave n hS
 have hE':gr (ι.take n) ψ' N env' a:=by
  have tk:∀ t,(env t).lt n=true→∀ c,VR ι ψ (env t) c→VR (ι.take n) ψ' (env t) c:=fun t ht c hc=>(hc.mono ⟨(d_.refl ι ψ).pl,hle⟩).take ht
  refine⟨hE.size,hE.bound, ?_,fun t=>?_⟩
  ·obtain⟨l,vs,h1,h2,h3,h4⟩:=hE.defers
   have hlt:ltL n l=true:=by
    rcases he DS with h5 | ⟨_,h5⟩
    ·rw [hds,h1] at h5;cases h5
    ·rw [h1] at h5;exact h5
   exact⟨l,vs,hds.trans h1,h2,fun j x v hx hv=>((h3 j x v hx hv).mono ⟨(d_.refl ι ψ).pl,hle⟩).take (dC.1 hlt x (aI hx)),h4⟩
  rcases he t with h1 | ⟨h1,h2⟩
  ·rw [h1];exact .junk _
  ·rw [h1]
   exact((hE.tmp t).mono ⟨(d_.refl ι ψ).pl,hle⟩).take h2
 refine KI.mono (h _ _ w a hR' hE') fun e a2 w2 hp=>?_
 obtain⟨ι2,ψ2,x,env2,S2,h1,h2,h3,h4,h5⟩:=hp
 refine⟨ι2,ψ2,x,env2,S2,⟨fun j p hj=>?_,eA.le_trans hle h1.psi⟩,h2,h3,h4,h5⟩
 refine h1.pl j p ?_
 rw [tq,Nat.min_eq_left hn];exact hj
theorem nW {i:KI}{t:Nat} (e:TypeId) (sz:Nat) (ht:env t=.snil) (hpos:0<sz)
  (h:ba P w0 n0 N r (.it i::k) Q .normal (eO env t (.sown S.length 0 0)) (S++[.arr e sz 0 0 []])):ba P w0 n0 N r (.it i::k) Q .normal env S:=by
 intro ι ψ w a hR hE
 have hth:=hR.thaw e sz hpos
 have hx:=d_.push ι ψ ⟨0,0,.slice none 0 0,sz⟩
 have hE':gr (ι++[⟨0,0,.slice none 0 0,sz⟩]) ψ N (eO env t (.sown S.length 0 0)) a:=by
  have htd:t≠DS:=fun e=>by
   obtain⟨l,vs,h1,_⟩:=hE.defers
   rw [e,h1] at ht;cases ht
  refine⟨hE.size,hE.bound, ?_,fun s=>?_⟩
  ·obtain⟨l,vs,h1,h2,h3,h4⟩:=hE.defers
   exact⟨l,vs,by rw [eO,if_neg (Ne.symm htd)];exact h1,h2,fun j x v hx' hv=>(h3 j x v hx' hv).mono hx,h4⟩
  simp only [eO]
  split
  ·next hs =>
   subst hs
   have hv:=hE.tmp s
   rw [ht] at hv
   generalize hc:a.tmps.getD s undef=c at hv
   cases hv
   exact .sown _ _ _ _ _ ⟨0,0,.slice none 0 0,sz⟩ (by rw [← hR.len];simp) (bg _) (fun _=>rfl)
  ·exact(hE.tmp s).mono hx
 exact KI.mono (h _ _ w a hth hE') fun e a2 w2 hp=>hp.chain (hx.take n0)
def yD (P:Program) (env:dK) (S:List aH):ResultVar→Option AV
 | .tmp t=>some (env t)
 | .cell a t=>uh P S t (env a)
def gW (P:Program) (env:dK) (S:List aH):List ResultVar→Option (List AV)
 | []=>some []
 | r::rs=>match yD P env S r,gW P env S rs with
  | some v,some vs=>some (v::vs)
  | _,_=>none
def dy:List AV→AV
 | [v]=>v
 | vs=>.tup vs
end
abbrev Rt:=ed→List aH→Prop
end Go.Fen
namespace Go.Fen
open Go.RowKit
def aH.ltB (n:Nat):aH→Bool
 | .cells cs _=>ltL n cs
 | .arr _ _ _ _ els=>ltL n els
 | .obj _=>true
 | .loop _ _ _ tm _ _ _=>tm.all (fun p=>p.2.lt n)
 | .mp _ es=>nC n es
 | .mit cur es=>nC n es&&(match cur with
  | some e=>e.1.lt n&&e.2.lt n
  | none=>true)
 | .dead=>true
theorem sk {n:Nat}{cur:Option (AV × AV)}{es:List (AV × AV)} (h:(aH.mit cur es).ltB n=true):nC n es=true∧∀ e,cur=some e→e.1.lt n=true∧e.2.lt n=true:=by
 simp only [aH.ltB,aB] at h
 refine⟨h.1, ?_⟩
 rintro e rfl
 simpa using h.2
def gu (n:Nat) (S0 S:List aH):Prop:=∀ (j:Nat) (B:aH),j<n→S[j]? = some B→S0[j]? = some B∨B.ltB n=true
theorem iR (S0 L:List aH):gu S0.length S0 (S0++L):=by
 intro j B hj hB
 rw [aJ hj] at hB
 exact .inl hB
theorem vr (S0:List aH):gu S0.length S0 S0:=fun _ _ _ h=>.inl h
def fw:List AV→List aH→Option (List aH)
 | [],S=>some S
 | .own m _::ms,S=>match S[m]? with
  | some (.obj (.deferred (some [])))=>fw ms (S.set m (.obj (.deferred none)))
  | _=>none
 | _,_=>none
def kX (P:Program) (F:Func) (S0:List aH) (R:ed→List aH→Prop):cR
 | .normal,env,S | .ret,env,S=>∃ ms S1 vs,env DS=.dfr ms∧fw ms S=some S1∧gW P env S1 F.results.toList=some vs∧gu S0.length S0 S1 ∧
   (conv S1 (fun a=>decide (S0.length≤a)) 4 (dy vs)).lt S0.length=true∧R (.ret (conv S1 (fun a=>decide (S0.length≤a)) 4 (dy vs))) (S1.take S0.length)
 | .panic v,env,S=>∃ ms S1,env DS=.dfr ms∧fw ms S=some S1∧gu S0.length S0 S1∧(conv S1 (fun a=>decide (S0.length≤a)) 4 v).lt S0.length=true∧R (.panic (conv S1 (fun a=>decide (S0.length≤a)) 4 v)) (S1.take S0.length)
 | _,_,_=>False
def df (args:List AV):dK:=fun t=>if t=DS then .dfr [] else (args[t]?).getD .junk
section
variable {P:Program}{w0 w:World}{ι:List Pl}{ψ:eA}{S:List aH}
theorem sn {es l:List (AV × AV)}{me:List MapEntry} (hp:l.Perm es) (h:ra ι ψ l me):nC ι.length es=true:=by
 refine fu.2 fun x hx=>?_
 obtain⟨i,hi⟩:=bh (hp.mem_iff.2 hx)
 have hlt:i<me.length:=by rw [← h.1];exact(aw.1 hi).1
 have:=h.2 i x me[i] hi (by simp [hlt])
 exact⟨this.1.lt_len,this.2.lt_len⟩
theorem di.ltB (h:di w0 ι ψ S w){j:Nat}{B:aH} (hB:S[j]? = some B):B.ltB S.length=true:=by
 obtain⟨pl,hpl,hR⟩:=h.get hB
 rw [← h.len]
 cases B with
 | cells cs ty =>
  obtain⟨_,⟨c,T,_,_,hv⟩,_⟩:=hR
  refine dC.2 fun x hx=>?_
  obtain⟨i,hi⟩:=bh hx
  obtain⟨_,v,_,hr⟩:=hv i x hi
  exact hr.lt_len
 | arr e sz fz g els =>
  obtain⟨_,hsz,_,_,⟨xs,_,hxs⟩,_⟩:=hR
  refine dC.2 fun x hx=>?_
  obtain⟨i,hi⟩:=bh hx
  have cell:∀ (j:Nat) (y:AV),x.cells[j]? = some y→y.lt ι.length=true:=fun j y hy=>by
   obtain⟨_,v,_,hr,_⟩:=hxs _ y (kz hsz hi hy)
   exact hr.lt_len
  cases x with
  | agg cs=>exact dC.2 fun y hy=>by obtain⟨j,hj⟩:=bh hy;exact cell j y hj
  | _=>exact cell 0 _ rfl
 | obj o=>rfl
 | loop st pend N tm ps asg body =>
  obtain⟨_,⟨fn,vs,d,_,h2,h3⟩,_⟩:=hR
  exact aF.2 fun p hp=>(h3 p hp).lt_len
 | mp fz es =>
  obtain⟨_,hn,⟨me,c,l,h1,h2,h3,h4,h5⟩,_⟩:=hR
  exact sn h3 h4
 | mit cur rest =>
  obtain⟨_,h1,_⟩:=hR
  rcases h1 with⟨_,rfl,rfl⟩ | ⟨mb,ck,me,seen,l,k1,k2,k4,k5,k6⟩
  ·rfl
  ·simp only [aH.ltB,aB]
   refine⟨sn k4 k5, ?_⟩
   cases cur with
   | none=>rfl
   | some e =>
    obtain⟨b,m,q1,q2,q3,q4⟩:=k6 e rfl
    simp only [aB]
    exact⟨q3.lt_len,q4.lt_len⟩
 | dead=>rfl
theorem mM (h:di w0 ι ψ S w){N:Nat}{env:dK}{a:Act} (hE:gr ι ψ N env a):∀ (rs:List ResultVar) (vs:List AV),gW P env S rs=some vs →
  ∃ cs:List Value,(rs.mapM (m:=Sem) fun r=>match r with
   | .tmp t=>pure (a.tmps.getD t undef)
   | .cell ad t=>do loadVar t (← asAddr (a.tmps.getD ad undef))).run P w=.ok cs w∧vs.length=cs.length∧∀ (j:Nat) (x:AV) (c:Value),vs[j]? = some x→cs[j]? = some c→VR ι ψ x c:=by
 intro rs
 induction rs with
 | nil=>intro vs hv;simp [gW] at hv;subst hv;exact⟨[],by simp,rfl,by simp⟩
 | cons r rs ih =>
  intro vs hv
  simp only [gW] at hv
  split at hv
  ·next v vs' hr hrs =>
   simp at hv;subst hv
   obtain⟨cs,h1,h2,h3⟩:=ih vs' hrs
   have key:∃ c,(match r with
     | .tmp t=>(pure (a.tmps.getD t undef):Sem Value)
     | .cell ad t=>do loadVar t (← asAddr (a.tmps.getD ad undef))).run P w=.ok c w∧VR ι ψ v c:=by
    cases r with
    | tmp t=>simp [yD] at hr;subst hr;exact⟨_,rfl,hE.tmp t⟩
    | cell ad t =>
     simp only [yD] at hr
     obtain⟨c,k1,k2⟩:=qG (P:=P) h (hE.tmp ad) hr
     refine⟨c, ?_,k2⟩
     show (do loadVar t (← asAddr (a.tmps.getD ad undef)):Sem Value).run P w=.ok c w
     generalize a.tmps.getD ad undef=p at k1 ⊢
     cases p with
     | pointer p=>cases p with
      | some p=>simpa [nq,eJ,asAddr] using k1
      | none=>simp [nq,eJ] at k1
     | _=>simp [nq,eJ] at k1
   obtain⟨c,k1,k2⟩:=key
   refine⟨c::cs, ?_,by simp [h2],fun j x c' hx hc=>?_⟩
   ·simp only [List.mapM_cons,cS,k1,dd,h1,gC]
   ·cases j with
    | zero=>simp at hx hc;subst hx hc;exact k2
    | succ j=>exact h3 j x c' (by simpa using hx) (by simpa using hc)
  ·cases hv
def bP (S:List aH):Prop:=∀ (j:Nat) (B:aH),S[j]? = some B→B.ltB S.length=true
theorem di.putObj (h:di w0 ι ψ S w){m:Nat}{o o':Obj}{pl:Pl} (hi:S[m]? = some (.obj o)) (hpl:ι[m]? = some pl) (ho':o'.isCells=false):di w0 ι ψ (S.set m (.obj o')) (w.putObj pl.blk o'):=by
 obtain⟨h0,h1,h2,h3,h4⟩:=h.blk m _ pl hi hpl
 have hset:ι.set m pl=ι:=gL hpl
 have hoth:∀ k,k≠pl.blk→(w.putObj pl.blk o').heap[k]? = w.heap[k]?:=fun k hk=>World.putObj_heap_other hk
 have key:=h.update (w':=w.putObj pl.blk o') (ψ':=ψ) (B':=.obj o') (pl':=pl) hi hpl ⟨rfl,rfl,rfl,by simp,fun k hk=>hoth k (by omega)⟩ (fun k hk _=>hoth k (fun e=>hk (by simp [aH.at,e]))) (by rw [hset];exact d_.refl _ _) (by
  rw [hset]
  exact⟨h0,eD (eG h1),(fun e=>by rw [ho'] at e;cases e),h3,h4⟩) (fun k hk=>.inl (by simpa [aH.at] using hk)) (fun b o v e=>.inl ⟨e,fun hk=>by
   simp [aH.at] at hk;subst hk;rw [h3 o] at e;cases e⟩) rfl
 rw [hset] at key;exact key
theorem kQ {F:Fence}{n:Nat}{fn:Func}{tmps:Array Value}{R:Ending→World→Prop}{u:FrameMode} (hu:u≠.run):∀ (ms:List AV) (vs:List Value) (S S1:List aH) (w:World),fw ms S=some S1→ms.length=vs.length →
  (∀ (j:Nat) (x:AV) (v:Value),ms[j]? = some x→vs[j]? = some v→VR ι ψ x v)→di w0 ι ψ S w→(∀ w1,di w0 ι ψ S1 w1→LeavesInM F n P fn tmps R [] u w1)→LeavesInM F n P fn tmps R (vs.map wI) u w:=by
 intro ms
 induction ms with
 | nil =>
  intro vs S S1 w h hl _ hR hk
  simp only [fw,bM] at h;subst h
  obtain rfl:vs=[]:=ib.1 hl.symm
  exact hk w hR
 | cons x ms ih =>
  intro vs S S1 w h hl hv hR hk
  cases vs with
  | nil=>simp at hl
  | cons v vs =>
   cases x with
   | own m off =>
    simp only [fw] at h
    split at h
    ·next hS =>
     have hx:=hv 0 _ _ rfl rfl
     cases hx with
     | own _ _ pl hpl =>
      obtain⟨h0,h1,h2,h3,h4⟩:=hR.blk m _ pl hS hpl
      refine⟨hu,.inl ⟨pl.blk,_,rfl,run_takeDeferred h1, ?_⟩⟩
      exact ih vs _ S1 _ h (by simpa using hl) (fun j x v hx hv'=>hv (j+1) x v hx hv') (hR.putObj hS hpl rfl) hk
    ·cases h
   | _=>simp [fw] at h
theorem enter {f:FuncId}{F:Func}{c:Code}{args:List AV}{R:ed→List aH→Prop} (hf:P.funcs[f]? = some F) (hb:F.body=some c) (hname:(F.name == "runtime.NumGoroutine")=false) (hargs:args.length≤F.ntmps) (hbd:F.ntmps≤DS)
  (h0:bP S→ba P w0 S.length F.ntmps none [.it (.code c)] (kX P F S R) .normal (df args) S):az P w0 f args S R:=by
 refine⟨fun a w=>by simp only [callFunc,cS,run_program,dd,hf,hname,hb];rfl,fun ι ψ w cargs hR hl hv=>?_⟩
 have h:=h0 fun j B hB=>hR.ltB hB
 refine(callsIn_wide (n:=0)).1 ?_
 refine callsIn_of_wp_marks (F:=Fence.wide) hf hb trivial ?_
 have hE:gr ι ψ F.ntmps (df args) { tmps:=cargs++cr (F.ntmps - cargs.size) undef,defers:=[] }:=by
  refine⟨by simp;omega,hbd,⟨[],[],by simp [df],rfl,by simp,rfl⟩,fun t=>?_⟩
  simp only [df]
  split
  ·next ht =>
   have:(cargs++cr (F.ntmps - cargs.size) undef).getD t undef=undef:=by
    rw [aK,dB (by simp;omega)];rfl
   rw [this]
   exact .dfr [] [] rfl (by simp)
  ·by_cases ht:t<args.length
   ·have e1:args[t]? = some args[t]:=aC ht
    have ht':t<cargs.size:=by omega
    have e2:cargs[t]? = some cargs[t]:=bN ht'
    rw [e1,aK,lC ht',e2]
    exact hv t _ _ e1 e2
   ·rw [cT (by omega)]
    exact .junk _
 refine wpIn_mono (h ι ψ w _ hR hE) fun e a' w' hp=>?_
 obtain⟨ι',ψ',x,env,S',h1,h2,h3,h4,h5⟩:=hp
 have hext:d_ ι ψ ι' ψ':=by rw [← hR.len,bQ] at h1;exact h1
 obtain⟨ds,dvs,d1,d2,d3,d4⟩:=h3.defers
 have leave:∀ S1 w1 v c,di w0 ι' ψ' S1 w1→gu S.length S S1→VR ι' ψ' v c→(conv S1 (fun a=>decide (S.length≤a)) 4 v).lt S.length=true →
   ∃ ι'' ψ'',d_ ι ψ ι'' ψ''∧di w0 ι'' ψ'' (S1.take S.length) w1∧VR ι'' ψ'' (conv S1 (fun a=>decide (S.length≤a)) 4 v) c:=by
  intro S1 w1 v c h2 ho hv hlt
  obtain⟨ψ'',k1,k2,k3⟩:=h2.leave S.length (fun j B hj hB=>by
   have:B.ltB S.length=true:=(ho j B hj hB).elim (fun e=>hR.ltB e) id
   cases B<;>first | exact this | (exact sk this) | trivial)
  refine⟨ι'.take S.length,ψ'',⟨fun i p hp=>?_,eA.le_trans hext.psi k1⟩,k3,(jm h2 k1 k2 4 v c hv).take hlt⟩
  obtain⟨p',e1,e2⟩:=hext.pl i p hp
  have:i<S.length:=by rw [← hR.len];exact(aw.1 hp).1
  exact⟨p',by rw [bu,if_pos this];exact e1,e2⟩
 have ret:∀ (h5:∃ ms S1 vs,env DS=.dfr ms∧fw ms S'=some S1∧gW P env S1 F.results.toList=some vs∧gu S.length S S1 ∧
   (conv S1 (fun a=>decide (S.length≤a)) 4 (dy vs)).lt S.length=true∧R (.ret (conv S1 (fun a=>decide (S.length≤a)) 4 (dy vs))) (S1.take S.length)),
   LeavesInM Fence.wide 0 P F a'.tmps (fun e w'=>∃ ι' ψ' out S',d_ ι ψ ι' ψ'∧di w0 ι' ψ' S' w'∧nh ι' ψ' out e∧R out S') a'.defers .returning w':=by
  rintro⟨ms,S1,vs,q1,q2,r1,r2,r3,r4⟩
  rw [q1] at d1;cases d1
  rw [d4]
  refine kQ (by simp) ds dvs S' S1 w' q2 d2 d3 h2 fun w1 hR1=>?_
  obtain⟨cs,q1,q2,q3⟩:=mM (P:=P) hR1 h3 _ vs r1
  have hrun:(results F a'.tmps).run P w1=.ok (if h:cs.toArray.size=1 then cs.toArray[0] else .tuple cs.toArray) w1:=by
   unfold results
   rw [yo]
   simp only [cS,Sem.run_map]
   erw [q1]
   rfl
  have hv:VR ι' ψ' (dy vs) (if h:cs.toArray.size=1 then cs.toArray[0] else .tuple cs.toArray):=by
   match vs,cs,q2,q3 with
   | [],[],_,_=>exact .tup _ _ rfl (by simp)
   | [v],[c],_,q3=>simpa [dy] using q3 0 v c rfl rfl
   | v1::v2::vs,c1::c2::cs,q2,q3 =>
    simp only [dy,fj,ah]
    rw [dif_neg (by omega)]
    exact .tup _ _ (by simpa using q2) (fun j x c hx hc=>q3 j x c hx (by simpa using hc))
   | [],_::_,q2,_=>simp at q2
   | [_],[],q2,_=>simp at q2
   | [_],_::_::_,q2,_=>simp at q2
   | _::_::_,[],q2,_=>simp at q2
   | _::_::_,[_],q2,_=>simp at q2
  obtain⟨ι'',ψ'',e1,e2,e3⟩:=leave S1 w1 _ _ hR1 r2 hv r3
  exact⟨_,hrun,ι'',ψ'',.ret _,_,e1,e2,e3,r4⟩
 cases x with
 | normal=>cases e<;>simp only [XR] at h4;exact ret h5
 | ret=>cases e<;>simp only [XR] at h4;exact ret h5
 | exit id=>exact h5.elim
 | goto l=>exact h5.elim
 | panic v =>
  cases e<;>simp only [XR] at h4
  obtain⟨c,rfl,hv⟩:=h4
  obtain⟨ms,S1,q1,q2,r2,r3,r4⟩:=h5
  rw [q1] at d1;cases d1
  show LeavesInM _ _ _ _ _ _ a'.defers _ _
  rw [d4]
  refine kQ (by simp) ds dvs S' S1 w' q2 d2 d3 h2 fun w1 hR1=>?_
  obtain⟨ι'',ψ'',e1,e2,e3⟩:=leave S1 w1 _ _ hR1 r2 hv r3
  exact⟨ι'',ψ'',.panic _,_,e1,e2,⟨c,rfl,e3⟩,r4⟩
end
mutual
theorem AV.lt_mono {n m:Nat} (h:n≤m):∀ x:AV,x.lt n=true→x.lt m=true
 | .own ..,hx=>by simp only [AV.lt,decide_eq_true_eq] at hx ⊢;omega
 | .oel ..,hx=>by simp only [AV.lt,decide_eq_true_eq] at hx ⊢;omega
 | .sown ..,hx=>by simp only [AV.lt,decide_eq_true_eq] at hx ⊢;omega
 | .mown ..,hx=>by simp only [AV.lt,decide_eq_true_eq] at hx ⊢;omega
 | .yld _,hx=>by simp only [AV.lt,decide_eq_true_eq] at hx ⊢;omega
 | .pro cs,hx=>ik h cs hx
 | .sval _ els,hx=>ik h els hx
 | .mval es,hx=>o9 h es hx
 | .fn _ a c,hx=>by
  simp only [AV.lt,aB] at hx ⊢
  exact⟨ik h a hx.1,ik h c hx.2⟩
 | .ifc _ v,hx=>AV.lt_mono h v hx
 | .agg cs,hx=>ik h cs hx
 | .tup cs,hx=>ik h cs hx
 | .dfr cs,hx=>ik h cs hx
 | .int ..,_=>rfl
 | .bool _,_=>rfl
 | .str _,_=>rfl
 | .nilp,_=>rfl
 | .mnil,_=>rfl
 | .snil,_=>rfl
 | .fnil,_=>rfl
 | .inil,_=>rfl
 | .val _,_=>rfl
 | .junk,_=>rfl
theorem ik {n m:Nat} (h:n≤m):∀ l:List AV,ltL n l=true→ltL m l=true
 | [],_=>rfl
 | x::r,hx=>by
  simp only [ltL,aB] at hx ⊢
  exact⟨AV.lt_mono h x hx.1,ik h r hx.2⟩
theorem o9 {n m:Nat} (h:n≤m):∀ l:List (AV × AV),nC n l=true→nC m l=true
 | [],_=>rfl
 | (a,b)::r,hx=>by
  simp only [nC,aB] at hx ⊢
  exact⟨⟨AV.lt_mono h a hx.1.1,AV.lt_mono h b hx.1.2⟩,o9 h r hx.2⟩
end
theorem aH.ltB_mono {n m:Nat} (h:n≤m){B:aH} (hB:B.ltB n=true):B.ltB m=true:=by
 cases B with
 | cells cs ty=>exact ik h cs hB
 | arr e sz fz g els=>exact ik h els hB
 | obj o=>rfl
 | loop st pend N tm ps asg body=>exact aF.2 fun p hp=>AV.lt_mono h p.2 (aF.1 hB p hp)
 | mp fz es=>exact o9 h es hB
 | mit cur es =>
  simp only [aH.ltB,aB] at hB ⊢
  refine⟨o9 h es hB.1, ?_⟩
  cases cur with
  | none=>rfl
  | some e =>
   have:=hB.2
   simp only [aB] at this ⊢
   exact⟨AV.lt_mono h e.1 this.1,AV.lt_mono h e.2 this.2⟩
 | dead=>rfl
section
variable {P:Program}{w0:World}{n0 N:Nat}{r:Option Nat}{Q:cR}{k:List TI}{env:dK}{S:List aH}
theorem dX {c:Code}{α:Type} (I:α→dK→List aH→Prop) (μ:α→Nat) (a0:α) (h0:I a0 env S)
  (step:∀ (a:α) (env:dK) (S:List aH),I a env S→(∀ (a':α) (env':dK) (S':List aH),μ a'<μ a→I a' env' S'→ba P w0 n0 N r (.it (.lp c)::k) Q .normal env' S') →
   ba P w0 n0 N r (.it (.code c)::.it (.lp c)::k) Q .normal env S):ba P w0 n0 N r (.it (.code (.loop c))::k) Q .normal env S:=by
 have key:∀ (m:Nat) (a:α) (env:dK) (S:List aH),μ a=m→I a env S→ba P w0 n0 N r (.it (.code c)::.it (.lp c)::k) Q .normal env S:=by
  intro m
  induction m using Hw with
  | _ m ih =>
   intro a env S hm hI
   exact step a env S hI fun a' env' S' hlt hI'=>eg (ih (μ a') (hm▸hlt) a' env' S' rfl hI')
 exact cP (key _ a0 env S rfl h0)
def iV (L:List Nat) (env:dK):dK:=fun t=>if t=DS then env t else if L.contains t then env t else .junk
theorem fq {i:KI}{S0 L:List aH} (hO:bP S0) (m:Nat) (sl:List Nat) (hn:n0=S0.length) (hds:(env DS).lt (S0.length+m)=true) (hsl:sl.all (fun t=>(env t).lt (S0.length+m))=true) (hL:(L.take m).all (fun B=>B.ltB (S0.length+m))=true)
  (h:ba P w0 n0 N r (.it i::k) Q .normal (iV sl env) (S0++L.take m)):ba P w0 n0 N r (.it i::k) Q .normal env (S0++L):=by
 refine Ct (S0.length+m) (iV sl env) (by omega) (by simp [iV]) (fun t=>?_) (fun j B hj hB=>?_) ?_
 ·unfold iV
  split
  ·next ht=>subst ht;exact .inr ⟨rfl,hds⟩
  split
  ·next ht=>exact .inr ⟨rfl,aF.1 hsl t (by simpa using ht)⟩
  ·exact .inl rfl
 ·have:B.ltB (S0.length+m)=true:=by
   by_cases hj0:j<S0.length
   ·rw [aJ hj0] at hB
    exact aH.ltB_mono (by omega) (hO j B hB)
   ·rw [aM (by omega)] at hB
    refine aF.1 hL B (aI (i:=j - S0.length) ?_)
    rw [bu,if_pos (by omega)];exact hB
  cases B<;>first | exact this | (exact sk this) | trivial
 ·rw [List.take_append,dW (by omega),Cn]
  exact h
end
end Go.Fen
namespace Go.Fen
theorem Ao (S L:List aH) (i:Nat):(S++L)[S.length+i]? = L[i]?:=by
 rw [aM (by omega)];congr 1;omega
theorem DY (S L:List aH):(S++L)[S.length]? = L[0]?:=Ao S L 0
theorem zV (S L:List aH) (i:Nat) (B:aH):(S++L).set (S.length+i) B=S++L.set i B:=by
 rw [ef _ _ (by omega)];congr 2;omega
theorem CX (S L:List aH) (B:aH):(S++L).set S.length B=S++L.set 0 B:=zV S L 0 B
theorem ki (S L M:List aH):S++L++M=S++(L++M):=ai S L M
theorem Gy (S L:List aH):(S++L).length=S.length+L.length:=ab
theorem CM (S L:List aH):(S++L).take S.length=S:=List.take_left
theorem A1 (S:List aH):S.take S.length=S:=bQ
theorem Km (n i:Nat):decide (n≤n+i)=true:=by simp
theorem GB (n:Nat):decide (n≤n)=true:=by simp
theorem Kk (n i:Nat):decide (n+i<n)=false:=by simp
theorem Gv (n i j:Nat):decide (n+i<n+j)=decide (i<j):=by simp
theorem Gu (n j:Nat):decide (n<n+j)=decide (0<j):=by simp
theorem y6 (L:List Nat) (env:dK) (t:Nat) (h:L.contains t=true):iV L env t=env t:=by unfold iV;simp only [h,if_true,ite_self]
theorem y7 (L:List Nat) (env:dK):iV L env 1000000=env 1000000:=by unfold iV;rw [if_pos rfl]
theorem yS (n:Nat):(0≤(n:Int))=True:=by simp
theorem AY (n:Nat):(n:Int).toNat=n:=Int.toNat_natCast n
theorem CA (env:dK) (t:Nat) (v:AV):eO env t v t=v:=by simp [eO]
theorem AP (env:dK) (t s:Nat) (v:AV) (h:(s==t)=false):eO env t v s=env s:=by
 simp at h;simp [eO,h]
section
variable {P:Program}{w0:World}{n0 N:Nat}{r:Option Nat}{Q:cR}{k:List TI}{env:dK}{S:List aH}
theorem bx {i:KI}{id:Nat} (h:ba P w0 n0 N r k Q (.exit id) env S):ba P w0 n0 N r (.it i::k) Q (.exit id) env S:=h
theorem bF {i:KI} (h:ba P w0 n0 N r k Q .ret env S):ba P w0 n0 N r (.it i::k) Q .ret env S:=h
theorem bj {i:KI}{v:AV} (h:ba P w0 n0 N r k Q (.panic v) env S):ba P w0 n0 N r (.it i::k) Q (.panic v) env S:=h
theorem bl {id:Nat} (h:ba P w0 n0 N r k Q .normal env S):ba P w0 n0 N r (.blk id::k) Q (.exit id) env S:=by
 simp only [ba,if_true];exact h
theorem a_ {id j:Nat} (hne:(j==id)=false) (h:ba P w0 n0 N r k Q (.exit j) env S):ba P w0 n0 N r (.blk id::k) Q (.exit j) env S:=by
 simp only [ba];rw [if_neg (by simpa using hne)];exact h
theorem dQ {id:Nat} (h:ba P w0 n0 N r k Q .normal env S):ba P w0 n0 N r (.blk id::k) Q .normal env S:=h
theorem bw {id:Nat} (h:ba P w0 n0 N r k Q .ret env S):ba P w0 n0 N r (.blk id::k) Q .ret env S:=h
theorem aZ {id:Nat}{v:AV} (h:ba P w0 n0 N r k Q (.panic v) env S):ba P w0 n0 N r (.blk id::k) Q (.panic v) env S:=h
theorem dP {x:AX} (h:Q x env S):ba P w0 n0 N r [] Q x env S:=h
theorem ce {c:Operand}{d e:Code} (hc:bK w0 env c=.bool true) (h:ba P w0 n0 N r (.it (.code d)::k) Q .normal env S):ba P w0 n0 N r (.it (.code (.cond c d e))::k) Q .normal env S:=yp hc h
theorem ci {c:Operand}{d e:Code} (hc:bK w0 env c=.bool false) (h:ba P w0 n0 N r (.it (.code e)::k) Q .normal env S):ba P w0 n0 N r (.it (.code (.cond c d e))::k) Q .normal env S:=yp hc h
theorem bE {all:Array Oper}{o:Oper}{l:List Oper}{b:Bool} (_h0:o.guard.isSome=true) (_hg:cG all env o=some b) (h1:b=true→ba P w0 n0 N r (.it (.ops all (o::l))::k) Q .normal env S) (h2:b=false→ba P w0 n0 N r (.it (.ops all (o::l))::k) Q .normal env S) :
  ba P w0 n0 N r (.it (.ops all (o::l))::k) Q .normal env S:=by
 cases b
 ·exact h2 rfl
 ·exact h1 rfl
theorem cg {c:Operand}{d e:Code}{t:Bool} (hc:bK w0 env c=.bool t) (h1:t=true→ba P w0 n0 N r (.it (.code d)::k) Q .normal env S) (h2:t=false→ba P w0 n0 N r (.it (.code e)::k) Q .normal env S) :
  ba P w0 n0 N r (.it (.code (.cond c d e))::k) Q .normal env S:=by
 refine yp hc ?_
 cases t
 ·exact h2 rfl
 ·exact h1 rfl
theorem bZ {all:Array Oper}{o:Oper}{l:List Oper}{v:AV}{S':List aH} (hg:o.guard=none) (hs:en P S (bK w0 env) o.op=some (v,S')) (hd:fg N o.dst=true)
  (h:ba P w0 n0 N r (.it (.ops all l)::k) Q .normal (putA env o.dst v) S'):ba P w0 n0 N r (.it (.ops all (o::l))::k) Q .normal env S :=
 cF (by simp [cG,hg]) hs hd h
def EL (S:List aH) (l:List AV):List AV:=l.map (conv S (y9 S) 4)
theorem G0 (S:List aH):EL S []=[]:=rfl
theorem Eh (S:List aH) (x:AV) (l:List AV):EL S (x::l)=conv S (y9 S) 4 x::EL S l:=rfl
theorem zj (S:List aH) (a b:List AV):EL S (a++b)=EL S a++EL S b:=co
theorem cI {all:Array Oper}{o:Oper}{l:List Oper}{fop:Operand}{args:Array Operand}{tys:Array TypeId}{f:FuncId}{first cap A:List AV}{S1:List aH} (sh:List Nat)
  (hg:cG all env o=some true) (ho:o.op=.call ⟨.value fop,args,tys⟩) (hf:bK w0 env fop=.fn (.func f) first cap) (hd:fg N o.dst=true)
  (hS:sh.foldl dS S=S1) (hA:EL S1 (first++args.toList.map (bK w0 env)++cap)=A)
  (h:az P w0 f A S1 (aR P w0 n0 N r all l k Q env o.dst)) :
  ba P w0 n0 N r (.it (.ops all (o::l))::k) Q .normal env S:=by
 subst hS hA
 exact IA sh hg ho hf hd h
theorem Au {F:Func}{S0 S1 S2:List aH}{R:ed→List aH→Prop}{ms vs:List AV}{v:AV} (h0:env DS=.dfr ms) (h01:fw ms S=some S2) (h1:gW P env S2 F.results.toList=some vs) (h2:gu S0.length S0 S2)
  (h3:conv S2 (fun a=>decide (S0.length≤a)) 4 (dy vs)=v) (h4:v.lt S0.length=true) (h5:S2.take S0.length=S1) (h:R (.ret v) S1):kX P F S0 R .ret env S:=by
 subst h3 h5
 exact⟨ms,S2,vs,h0,h01,h1,h2,h4,h⟩
theorem L6 {F:Func}{S0 S1 S2:List aH}{R:ed→List aH→Prop}{ms vs:List AV}{v:AV} (h0:env DS=.dfr ms) (h01:fw ms S=some S2) (h1:gW P env S2 F.results.toList=some vs) (h2:gu S0.length S0 S2)
  (h3:conv S2 (fun a=>decide (S0.length≤a)) 4 (dy vs)=v) (h4:v.lt S0.length=true) (h5:S2.take S0.length=S1) (h:R (.ret v) S1):kX P F S0 R .normal env S:=Au h0 h01 h1 h2 h3 h4 h5 h
theorem GN {F:Func}{S0 S1 S2:List aH}{R:ed→List aH→Prop}{ms:List AV}{v v':AV} (h0:env DS=.dfr ms) (h01:fw ms S=some S2) (h2:gu S0.length S0 S2)
  (h3:conv S2 (fun a=>decide (S0.length≤a)) 4 v=v') (h4:v'.lt S0.length=true) (h5:S2.take S0.length=S1) (h:R (.panic v') S1):kX P F S0 R (.panic v) env S:=by
 subst h3 h5
 exact⟨ms,S2,h0,h01,h2,h4,h⟩
end
theorem BZ (b:Bool):(b==true)=b:=by cases b<;>rfl
theorem zo (b:Bool):(b==false) = !b:=by cases b<;>rfl
theorem Br (n:Nat) (cs:List AV) (ty:Option TypeId):(aH.cells cs ty).ltB n=ltL n cs:=rfl
theorem Aj (n:Nat) (e:TypeId) (a b c:Nat) (els:List AV):(aH.arr e a b c els).ltB n=ltL n els:=rfl
theorem Gw (n:Nat) (o:Obj):(aH.obj o).ltB n=true:=rfl
theorem DJ (n:Nat) (st:LoopState) (pend:Option Code) (N:Nat) (tm:List (Nat × AV)) (ps:Array Tmp) (asg body:Code):(aH.loop st pend N tm ps asg body).ltB n=tm.all (fun p=>p.2.lt n):=rfl
theorem Kl (n:Nat) (fz:Bool) (es:List (AV × AV)):(aH.mp fz es).ltB n=nC n es:=rfl
theorem DI (n:Nat) (es:List (AV × AV)):(aH.mit none es).ltB n=(nC n es&&true):=rfl
theorem DH (n:Nat) (e:AV × AV) (es:List (AV × AV)):(aH.mit (some e) es).ltB n=(nC n es&&(e.1.lt n&&e.2.lt n)):=rfl
theorem DK (n:Nat):aH.dead.ltB n=true:=rfl
theorem qY (S0 L:List aH):gu S0.length S0 (S0++L)=True:=eq_true (iR S0 L)
theorem tJ (S0:List aH):gu S0.length S0 S0=True:=eq_true (vr S0)
attribute [go_sem] yS AY aQ bB y6 y7 List.contains_cons List.contains_nil Bool.or_true Bool.true_or gh kZ Br Aj Gw DJ Kl DI DH DK BZ zo qY tJ
theorem so (n:Nat) (a b:List AV):ltL n (a++b)=(ltL n a&&ltL n b):=by
 induction a with
 | nil=>simp [ltL]
 | cons x a ih=>simp [ltL,ih,yh]
theorem tG (a b:List AV):plainL (a++b)=(plainL a&&plainL b):=by
 induction a with
 | nil=>simp [plainL]
 | cons x a ih=>simp [plainL,ih,yh]
attribute [go_sem] G0 Eh zj so tG List.all_append fw DS en gw bK ju rx pf Aq fI kv eW kR tM sw m5 o7 eF j6 vj xp sI lG qA Option.orElse_some Option.orElse_none lc List.find?_nil fo gG putA cG fg uh xb mh vS mN vQ vK ot u_ mw G8 nF ri vb GV Ck qL pg My sW Bt hZ GA px mZ gQ v_ ny
 ry rR dz kV lM uV jx AV.cells AV.leaf AV.isJunk EK oc df gW yD dy conv AV.plain plainL AV.lt ltL aR dS y9
 Ao DY zV CX ki Gy CM A1 Km GB Kk Gv Gu CA AP gJ bne_iff_ne beq_self_eq_true bne_self_eq_false
 List.getElem?_cons_zero List.getElem?_cons_succ List.set_cons_zero List.set_cons_succ ah aj al ap aP
 aq af ao ae List.take_nil List.drop_nil List.head?_cons aG aL AG List.all_nil h_ List.foldl_nil
 dF kj ER Option.getD_none List.getElem?_nil
 dh cA bX cH cC cE nP dw bI and_self and_true true_and true_or or_true false_or or_false false_and and_false
 ite_true ite_false if_true if_false eq_self aU gg decide_true decide_false du Ca Cb List.isEmpty_cons List.isEmpty_nil
end Go.Fen
namespace Go.Fen
open Go.RowKit
def wr:AV→List Nat
 | .own a _=>[a]
 | .oel a _ _ _=>[a]
 | .sown a _ _=>[a]
 | .mown a=>[a]
 | _=>[]
def mv (ρ:Operand→AV):Op→List Nat
 | .load _ a=>wr (ρ a)
 | .convert _ _ x=>wr (ρ x)
 | .indexAddr _ x _=>wr (ρ x)
 | .lookup _ x _ _=>wr (ρ x)
 | .entry x=>wr (ρ x)
 | .call c=>c.args.toList.flatMap fun x=>wr (ρ x)
 | _=>[]
theorem zm {P:Program}{S S':List aH}{s d:TypeId}{x:AV} (h:∀ a∈wr x,S'[a]? = S[a]?):sW P S' s d x=sW P S s d x:=by
 unfold sW
 cases hs:P.underlying s with
 | none=>rfl
 | some a =>
  cases hd:P.underlying d with
  | none=>cases a<;>rfl
  | some b =>
   cases x with
   | sown u g n =>
    have e:=h u (by simp [wr])
    cases b<;>first | rfl | (cases a<;>first | rfl | (simp only [e]))
   | own u o =>
    have e:=h u (by simp [wr])
    cases o<;>cases a<;>first | rfl | (cases b<;>first | rfl | (simp only [e]))
   | _=>cases b<;>first | rfl | (cases a<;>rfl)
theorem xx {P:Program}{S S':List aH}{t:TypeId}{x i:AV} (h:∀ a g n,x=.sown a g n→S'[a]? = S[a]?):ot P S' t x i=ot P S t x i:=by
 unfold ot
 cases hs:P.underlying t with
 | none=>rfl
 | some a =>
  cases x with
  | sown u g n =>
   have e:=h u g n rfl
   cases a<;>first | rfl | (cases i<;>first | rfl | (simp only [e]))
  | _=>cases a<;>first | rfl | (cases i<;>rfl)
theorem vE {P:Program}{S S':List aH}{t:TypeId}{x i:AV}{ok:Bool} (h:∀ a,x=.mown a→S'[a]? = S[a]?):ju P S' t x i ok=ju P S t x i ok:=by
 have:m5 S' x=m5 S x:=by
  cases x<;>simp only [m5]
  rw [h _ rfl]
 unfold ju
 rw [this]
theorem yH {P:Program}{S S':List aH}{ρ:Operand→AV}{op:Op} (h:∀ a∈mv ρ op,S'[a]? = S[a]?):gw P S' ρ op=gw P S ρ op:=by
 cases op with
 | load t a =>
  simp only [gw,uh]
  simp only [mv] at h
  cases hx:ρ a<;>simp only [hx,wr,bC,forall_eq] at h<;>simp only [xb]
  ·rw [h]
  ·rw [h]
 | convert s d x =>
  simp only [gw]
  exact zm fun a ha=>h a (by simpa [mv] using ha)
 | indexAddr t x i =>
  simp only [gw]
  exact xx fun a g n e=>h a (by simp [mv,e,wr])
 | lookup t x i ok =>
  simp only [gw]
  exact vE fun a e=>h a (by simp [mv,e,wr])
 | entry x =>
  simp only [gw]
  simp only [mv] at h
  cases hx:ρ x<;>simp only [sI]
  next a o =>
   cases o
   ·have:=h a (by simp [hx,wr])
    simp only [this]
   ·rfl
 | call c =>
  obtain⟨callee,args,ts⟩:=c
  cases callee with
  | builtin b =>
   simp only [gw,px]
   split
   ·next a g n hargs =>
    have hx:∃ y∈args.toList,ρ y=.sown a g n:=by
     have:(AV.sown a g n)∈args.toList.map ρ:=by rw [hargs];simp
     simpa using aX.1 this
    obtain⟨y,hy,hya⟩:=hx
    have:=h a (by simp only [mv,List.mem_flatMap];exact⟨y,hy,by rw [hya];simp [wr]⟩)
    simp only [this]
   ·rfl
   ·next x t hargs hts =>
    have hl:xp S' P t x=xp S P t x:=by
     unfold xp
     cases P.underlying t with
     | none=>rfl
     | some d =>
      cases x with
      | mown a =>
       have hx:∃ y∈args.toList,ρ y=.mown a:=by
        have:(AV.mown a)∈args.toList.map ρ:=by rw [hargs];simp
        simpa using aX.1 this
       obtain⟨y,hy,hya⟩:=hx
       have:=h a (by simp only [mv,List.mem_flatMap];exact⟨y,hy,by rw [hya];simp [wr]⟩)
       cases d<;>first | rfl | simp only [this]
      | _=>cases d<;>rfl
    rw [hl]
   all_goals first | rfl | (simp_all)
  | _=>rfl
 | _=>rfl
def kw:Op→Bool
 | .alloc _ | .box _ _ | .buildSlice _ _ _ | .store _ _ _ | .makeSlice _ _ _ | .makeMap _ _ | .mapUpdate _ _ _ _ | .insert _ _ _ _ | .range _ _=>false
 | .call c=>match c.callee with
  | .builtin .len | .builtin .min | .builtin .max | .builtin .unsafeSliceData=>true
  | _=>false
 | _=>true
theorem oW {P:Program}{S:List aH}{ρ:Operand→AV}{op:Op} (h:kw op=true):en P S ρ op=(gw P S ρ op).map (fun v=>(v,S)):=by
 cases op<;>first | rfl | simp [kw] at h | skip
 rename_i c
 obtain⟨callee,args,ts⟩:=c
 cases callee with
 | builtin b=>cases b<;>first | rfl | simp [kw] at h
 | _=>simp [kw] at h
theorem nB {ρ ρ':Operand→AV}{x:Option Operand} (h:∀ y,x=some y→ρ' y=ρ y):x.map ρ'=x.map ρ:=by
 cases x with
 | none=>rfl
 | some y=>simp [h y rfl]
theorem jh {ρ ρ':Operand→AV}{x:List Operand} (h:∀ y∈x,ρ' y=ρ y):x.map ρ'=x.map ρ:=List.map_congr_left h
theorem qC {ρ ρ':Operand→AV}{x:List (Nat × Operand)} (h:∀ y∈x.map (·.2),ρ' y=ρ y):x.map (fun p=>(p.1,ρ' p.2))=x.map (fun p=>(p.1,ρ p.2)) :=
 List.map_congr_left fun p hp=>by rw [h _ (dq hp)]
theorem qz {P:Program}{S:List aH}{ρ ρ':Operand→AV}{op:Op} (h:∀ x∈op.operands,ρ' x=ρ x):gw P S ρ' op=gw P S ρ op:=by
 cases op with
 | build t parts=>simp only [gw];rw [qC fun y hy=>h y (by simpa [bV] using hy)]
 | makeFunc fn first cap =>
  simp only [gw]
  rw [jh (x:=first.toList) fun y hy=>h y (by simp [bV];exact .inl (by simpa using hy)),jh (x:=cap.toList) fun y hy=>h y (by simp [bV];exact .inr (by simpa using hy))]
 | slice t x lo hi mx =>
  simp only [gw]
  rw [h x (by simp [bV]),nB (x:=lo) fun y hy=>h y (by simp [bV,hy]),nB (x:=hi) fun y hy=>h y (by simp [bV,hy]),nB (x:=mx) fun y hy=>h y (by simp [bV,hy])]
 | call c =>
  obtain⟨callee,args,ts⟩:=c
  simp only [gw]
  rw [jh (x:=args.toList) fun y hy=>h y (by simp [bV,Call.operands];exact .inr (by simpa using hy))]
 | _=>simp [bV] at h<;>simp [gw,h]
theorem jB {P:Program}{S:List aH}{ρ ρ':Operand→AV}{op:Op} (h:∀ x∈op.operands,ρ' x=ρ x):en P S ρ' op=en P S ρ op:=by
 cases op with
 | buildSlice t len parts=>simp only [en];rw [qC fun y hy=>h y (by simpa [bV] using hy)]
 | call c =>
  have hp:=qz (P:=P) (S:=S) h
  obtain⟨callee,args,ts⟩:=c
  have ha:∀ y∈args.toList,ρ' y=ρ y:=fun y hy=>h y (by simp [bV,Call.operands];exact .inr (by simpa using hy))
  simp only [en,hp]
  split
  ·next s x t tx hs hx =>
   rw [ha s (by rw [hs];simp),ha x (by rw [hs];simp)]
  ·next s x t tx hs hx =>
   rw [ha s (by rw [hs];simp),ha x (by rw [hs];simp)]
  ·rfl
 | alloc t=>rfl
 | box t x=>simp only [en];rw [h x (by simp [bV])]
 | makeSlice t l c=>simp only [en];rw [h l (by simp [bV]),h c (by simp [bV])]
 | store t a v=>simp only [en];rw [h a (by simp [bV]),h v (by simp [bV])]
 | insert t m k v=>simp only [en];rw [h m (by simp [bV]),h k (by simp [bV]),h v (by simp [bV])]
 | mapUpdate t m k v=>simp only [en];rw [h m (by simp [bV]),h k (by simp [bV]),h v (by simp [bV])]
 | makeMap t r=>simp only [en];rw [nB (x:=r) fun y hy=>h y (by simp [bV,hy])]
 | range t x=>simp only [en];rw [h x (by simp [bV])]
 | _=>simp only [en];rw [qz h]
theorem y_ {ρ ρ':Operand→AV}{op:Op} (h:∀ x∈op.operands,ρ' x=ρ x):mv ρ' op=mv ρ op:=by
 cases op with
 | call c =>
  obtain⟨callee,args,ts⟩:=c
  simp only [mv]
  have:∀ l:List Operand,(∀ y∈l,ρ' y=ρ y)→l.flatMap (fun x=>wr (ρ' x))=l.flatMap (fun x=>wr (ρ x)):=by
   intro l
   induction l with
   | nil=>intro _;rfl
   | cons y l ih=>intro hl;rw [kY,kY,hl y (by simp),ih fun z hz=>hl z (by simp [hz])]
  exact this _ fun y hy=>h y (by simp [bV,Call.operands];exact .inr (by simpa using hy))
 | _=>first | rfl | (simp [bV] at h;simp [mv,h])
end Go.Fen
namespace Go.Fen
open Go.RowKit
section
variable {P:Program}{w0:World}{n0 N:Nat}{r:Option Nat}{ops:Array Oper}{Q:cR}{k:List TI}{env:dK}{S:List aH}
theorem yC (k:List TI) (v:AV):ba P w0 n0 N r k Q (.panic v) env S=Q (.panic v) env S:=by
 induction k with
 | nil=>rfl
 | cons x k ih=>cases x<;>exact ih
def ie (P:Program) (w0:World) (N:Nat) (ops:Array Oper) (Q:cR) (i:Nat) (K:dK→List aH→Prop) (env:dK) (S:List aH):Prop :=
  ∃ o,ops[i]? = some o∧fg N o.dst=true ∧
    ((cG ops env o=some false∧K (putA env o.dst (.tup [])) S) ∨
     (cG ops env o=some true∧∃ v S',en P S (bK w0 env) o.op=some (v,S')∧K (putA env o.dst v) S') ∨
     (cG ops env o=some true∧∃ (fop:Operand) (args:Array Operand) (tys:Array TypeId) (f:FuncId) (first cap:List AV) (sh:List Nat),o.op=.call ⟨.value fop,args,tys⟩∧bK w0 env fop=.fn (.func f) first cap ∧
       az P w0 f ((first++args.toList.map (bK w0 env)++cap).map (conv (sh.foldl dS S) (y9 (sh.foldl dS S)) 4)) (sh.foldl dS S)
         (fun out S'=>match out with
           | .ret v=>K (putA env o.dst v) S'
           | .panic v=>Q (.panic v) env S')))
theorem ie.mono {i:Nat}{K K':dK→List aH→Prop} (h:ie P w0 N ops Q i K env S) (hk:∀ env S,K env S→K' env S):ie P w0 N ops Q i K' env S:=by
 obtain⟨o,h1,h2,h3⟩:=h
 refine⟨o,h1,h2, ?_⟩
 rcases h3 with⟨a,b⟩ | ⟨a,v,S',b,c⟩ | ⟨a,fop,args,tys,f,first,cap,sh,b,c,d⟩
 ·exact .inl ⟨a,hk _ _ b⟩
 ·exact .inr (.inl ⟨a,v,S',b,hk _ _ c⟩)
 ·refine .inr (.inr ⟨a,fop,args,tys,f,first,cap,sh,b,c,d.mono fun out S' h=>?_⟩)
  cases out with
  | ret v=>exact hk _ _ h
  | panic v=>exact h
def j7 (ops:Array Oper) (j p:Nat):Bool :=
 match ops[j]? with
 | some oj=>!(oj.after.any fun e=>eS .any e&&e.on==p)
 | none=>true
def cU (ops:Array Oper) (j:Nat):List (Nat × List Nat)→List aH→List aH→Prop
 | [],_,_=>True
 | p::ps,S,S'=>(j7 ops j p.1=true→∀ a∈p.2,S'[a]? = S[a]?)∧cU ops j ps S S'
def dI (P:Program) (w0:World) (n0 N:Nat) (r:Option Nat) (ops:Array Oper) (k:List TI) (Q:cR):Nat→Array Bool→List (Nat × List Nat)→dK→List aH→Prop
 | 0,listed,_,env,S=>c_ .any ops listed=[]∧ba P w0 n0 N r k Q .normal env S
 | f+1,listed,prot,env,S=>(c_ .any ops listed=[]→ba P w0 n0 N r k Q .normal env S) ∧
   ∀ i∈c_ .any ops listed,ie P w0 N ops Q i (fun env' S'=>cU ops i prot S S'∧dI P w0 n0 N r ops k Q f (listed.setIfInBounds i true) prot env' S') env S
theorem yO {F:Fence}{i:Nat}{K K':Act→World→Prop}{Q Q':Exit→Act→World→Prop}{a:Act}{w:World} (hk:∀ a w,K a w→K' a w) (hq:∀ e a w,Q e a w→Q' e a w) (h:wpOpIn F 0 P ops Q i K a w):wpOpIn F 0 P ops Q' i K' a w:=by
 unfold wpOpIn at *
 split
 ·next ho=>simp only [ho] at h;exact hk _ _ h
 ·next o ho =>
  simp only [ho] at h
  split
  ·next hw=>simp only [hw,if_true] at h;exact⟨h.1,tU hk hq _ h.2⟩
  ·next hw=>simp only [hw] at h;exact⟨h.1,hk _ _ h.2⟩
theorem qP {F:Fence}{Q Q':Exit→Act→World→Prop} (hq:∀ e a w,Q e a w→Q' e a w):∀ (f:Nat) (listed:Array Bool) (a:Act) (w:World),wpAnyIn F 0 P .any ops Q f listed a w→wpAnyIn F 0 P .any ops Q' f listed a w
 | 0,_,_,_,h=>⟨h.1,hq _ _ _ h.2⟩
 | f+1,_,_,_,h=>⟨fun e=>hq _ _ _ (h.1 e),fun i hi=>yO (qP hq f _) hq (h.2 i hi)⟩
theorem BW {o:Oper}{fop:Operand}{args:Array Operand}{tys:Array TypeId}{f:FuncId}{first cap:List AV}{R:ed→List aH→Prop}{ι:List Pl}{ψ:eA}{a:Act}{w:World} (sh:List Nat)
  (ho:o.op=.call ⟨.value fop,args,tys⟩) (hf:bK w0 env fop=.fn (.func f) first cap)
  (h:az P w0 f ((first++args.toList.map (bK w0 env)++cap).map (conv (sh.foldl dS S) (y9 (sh.foldl dS S)) 4)) (sh.foldl dS S) R)
  (hR:di w0 ι ψ S w) (hE:gr ι ψ N env a) (K:Act→World→Prop) (QQ:Exit→Act→World→Prop)
  (hk:∀ ι' ψ' w' v cv S',d_ ι ψ ι' ψ'→di w0 ι' ψ' S' w'→VR ι' ψ' v cv→R (.ret v) S'→K (a.put o.dst cv) w')
  (hq:∀ ι' ψ' w' v ch S',d_ ι ψ ι' ψ'→di w0 ι' ψ' S' w'→XR ι' ψ' (.panic v) (.panic ch)→R (.panic v) S'→QQ (.panic ch) a w') :
  o.uponIn (FR r) 0 P a K QQ ((execOp a.eval o).run P w):=by
 obtain⟨ψ1,hle,hR1⟩:=jt (w0:=w0) sh S ψ hR
 have hE1:gr ι ψ1 N env a:=hE.mono ⟨(d_.refl ι ψ).pl,hle⟩
 have hfr:=kT hR1
 have hvf:=hE1.eval hR1 fop
 rw [hf] at hvf
 generalize hcf:a.eval fop=cf at hvf
 cases hvf with
 | fn _ _ _ vf vc hl1 hl2 h1 h2 =>
  have hres:(execOp a.eval o).run P w=.ok (.enter f (vf++args.map a.eval++vc)) w:=by
   simp [execOp,ho,resolve,hcf,Deferred.ofValue,invoke,h.1]
  rw [hres]
  refine⟨fun h=>sO r h,oD (r:=r) ?_⟩
  refine(h.2 ι ψ1 w (vf++args.map a.eval++vc) hR1 (by simp [hl1,hl2]) ?_).mono ?_
  ·intro j x c hx hc
   rw [aQ,aW] at hx
   obtain⟨y,hy,rfl⟩:=hx
   refine jm hR1 (eA.le_refl _) hfr 4 y c ?_
   have hc':(vf.toList++args.toList.map a.eval++vc.toList)[j]? = some c:=by
    rw [← bR] at hc
    simpa using hc
   by_cases hj1:j<first.length
   ·rw [ai,aJ hj1] at hy
    rw [ai,aJ (by simp;omega)] at hc'
    exact h1 j y c hy (by simpa using hc')
   ·by_cases hj2:j<first.length+args.size
    ·rw [ai,aM (by omega),aJ (by simp;omega)] at hy
     rw [ai,aM (by simp;omega),aJ (by simp;omega)] at hc'
     simp only [fJ,← hl1,aQ,aW] at hy hc'
     obtain⟨z,hz,rfl⟩:=hy
     obtain⟨z',hz',rfl⟩:=hc'
     rw [hz] at hz';cases hz'
     exact hE1.eval hR1 z
    ·rw [aM (by simp;omega)] at hy
     rw [aM (by simp;omega)] at hc'
     simp only [ab,bB,fJ,← hl1] at hy hc'
     exact h2 _ y c hy (by simpa using hc')
  ·rintro e w' ⟨ι',ψ',out,S',e1,e2,e3,e4⟩
   have hx:d_ ι ψ ι' ψ':=(show d_ ι ψ ι ψ1 from ⟨(d_.refl ι ψ).pl,hle⟩).trans e1
   cases out with
   | ret v =>
    cases e<;>simp only [nh] at e3
    exact hk ι' ψ' w' v _ S' hx e2 e3 e4
   | panic v =>
    cases e<;>simp only [nh] at e3
    exact hq ι' ψ' w' v _ S' hx e2 e3 e4
theorem Bl {i:Nat}{K:dK→List aH→Prop} (h:ie P w0 N ops Q i K env S){ι:List Pl}{ψ:eA}{a:Act}{w:World} (hR:di w0 ι ψ S w) (hE:gr ι ψ N env a) :
  wpOpIn (FR r) 0 P ops (lw w0 n0 N ι ψ (ba P w0 n0 N r k Q)) i (fun a' w'=>∃ ι' ψ' env' S',d_ ι ψ ι' ψ'∧di w0 ι' ψ' S' w'∧gr ι' ψ' N env' a'∧K env' S') a w:=by
 obtain⟨o,ho,hd,h⟩:=h
 unfold wpOpIn
 simp only [ho]
 rcases h with⟨hg,hk⟩ | ⟨hg,v,S',hs,hk⟩ | ⟨hg,fop,args,tys,f,first,cap,sh,hop,hf,hcall⟩
 ·have hw:=dt hE hg
  simp only [hw,du,if_false]
  exact⟨fun _ _=>trivial,ι,ψ,_,_,d_.refl _ _,hR,hE.putA (.tup _ _ rfl (by simp)) hd,hk⟩
 ·have hw:=dt hE hg
  simp only [hw,if_true]
  refine⟨fun _ _=>trivial, ?_⟩
  rw [Oper.semAt_eq _ _ _ (fun c hc=>by rw [hc] at hs;simp [en,gw] at hs)]
  obtain⟨ι',ψ',w',nx,cv,h1,h2,h3,h4,h5⟩:=mI hR (fun x=>hE.eval hR x) hs
  rw [h1]
  have:∃ ι' ψ' env' S',d_ ι ψ ι' ψ'∧di w0 ι' ψ' S' w'∧gr ι' ψ' N env' (a.put o.dst cv)∧K env' S':=⟨ι',ψ',_,S',h3,h4,(hE.mono h3).putA h5 hd,hk⟩
  rcases h2 with rfl | ⟨rfl,rfl⟩
  ·exact this
  ·exact this
 ·-- the call goes through the rule for lists
  have hw:=dt hE hg
  simp only [hw,if_true]
  refine⟨fun _ _=>trivial, ?_⟩
  rw [Oper.semAt_eq _ _ _ (fun c hc=>by rw [hc] at hop;cases hop)]
  exact BW (r:=r) sh hop hf hcall hR hE _ _ (fun ι' ψ' w' v cv S' e1 e2 e3 e4=>⟨ι',ψ',_,S',e1,e2,(hE.mono e1).putA e3 hd,e4⟩)
   (fun ι' ψ' w' v ch S' e1 e2 e3 e4=>⟨ι',ψ',.panic v,env,S',e1.take n0,e2,hE.mono e1,e3,by rw [yC];exact e4⟩)
theorem zr:∀ (f:Nat) (listed:Array Bool) (prot:List (Nat × List Nat)) (env:dK) (S:List aH),dI P w0 n0 N r ops k Q f listed prot env S→∀ (ι:List Pl) (ψ:eA) (a:Act) (w:World),di w0 ι ψ S w→gr ι ψ N env a →
  wpAnyIn (FR r) 0 P .any ops (lw w0 n0 N ι ψ (ba P w0 n0 N r k Q)) f listed a w:=by
 intro f
 induction f with
 | zero=>intro listed prot env S h ι ψ a w hR hE;exact⟨h.1,lw.here hR hE (x:=.normal) trivial h.2⟩
 | succ f ih =>
  intro listed prot env S h ι ψ a w hR hE
  refine⟨fun e=>lw.here hR hE (x:=.normal) trivial (h.1 e),fun i hi=>?_⟩
  refine wpOpIn_mono (fun a' w' hk=>?_) (Bl (n0:=n0) (r:=r) (k:=k) (h.2 i hi) hR hE)
  obtain⟨ι',ψ',env',S',e1,e2,e3,_,e4⟩:=hk
  exact qP (fun e a2 w2 hp=>hp.chain (e1.take n0)) f _ _ _ (ih _ prot env' S' e4 ι' ψ' a' w' e2 e3)
theorem Iz {id:Nat} (hm:P.follows .mixedOrders=true) (h:dI P w0 n0 N r ops k Q ops.size (cr ops.size false) [] env S):ba P w0 n0 N r (.it (.code (.region id ops true))::k) Q .normal env S :=
 fun ι ψ w a hR hE=>wpIn_region_any hm (zr _ _ _ _ _ h ι ψ a _ (hR.same_heap rfl rfl rfl rfl) hE)
theorem vm {j:Nat}{p:Nat × List Nat}{ps:List (Nat × List Nat)}{S S':List aH} (h:cU ops j (p::ps) S S'):cU ops j ps S S':=h.2
theorem gj {j:Nat}:∀ {ps:List (Nat × List Nat)}{S:List aH},cU ops j ps S S
 | [],_=>trivial
 | _::_,_=>⟨fun _ _ _=>rfl,gj⟩
theorem f_ {p:Nat × List Nat}{ps:List (Nat × List Nat)}:∀ (f:Nat) (listed:Array Bool) (env:dK) (S:List aH),dI P w0 n0 N r ops k Q f listed (p::ps) env S→dI P w0 n0 N r ops k Q f listed ps env S
 | 0,_,_,_,h=>h
 | f+1,_,_,_,h=>⟨h.1,fun i hi=>(h.2 i hi).mono fun _ _ ⟨a,b⟩=>⟨vm a,f_ f _ _ _ b⟩⟩
theorem BH {d:Option Nat}{v:AV}{x:Operand} (h:∀ t,d=some t→x≠.tmp t):bK w0 (putA env d v) x=bK w0 env x:=by
 cases d with
 | none=>rfl
 | some t =>
  cases x with
  | tmp s =>
   have:s≠t:=fun e=>h t rfl (by rw [e])
   simp [bK,putA,eO,this]
  | _=>rfl
theorem lJ {o:Oper}{d:Option Nat}{v:AV} (h:∀ t,d=some t→t∉o.looksAt ops):∀ x∈o.op.operands,bK w0 (putA env d v) x=bK w0 env x:=fun x hx =>
 BH fun t ht e=>h t ht (by
  subst e
  unfold Oper.looksAt
  refine ly _ (tw.2 ⟨.tmp t,by simpa using hx,rfl⟩))
theorem lP {o:Oper}{d:Option Nat}{v:AV} (h:∀ t,d=some t→t∉o.looksAt ops):cG ops (putA env d v) o=cG ops env o:=by
 unfold cG
 cases hg:o.guard with
 | none=>rfl
 | some p =>
  obtain⟨g,want⟩:=p
  cases ho:ops[g]? with
  | none=>simp [ho]
  | some og =>
   cases hd:og.dst with
   | none=>simp [ho,hd]
   | some s =>
    have:putA env d v s=env s:=by
     cases d with
     | none=>rfl
     | some t =>
      have hne:s≠t:=fun e=>h t rfl (by
       subst e
       unfold Oper.looksAt
       exact dR _ (by simp [hg,ho,hd]))
      simp [putA,eO,hne]
    simp [ho,hd,this]
theorem t8 {d e:Option Nat}{v u:AV} (h:∀ t,d=some t→e≠some t):putA (putA env d v) e u=putA (putA env e u) d v:=by
 cases d with
 | none=>rfl
 | some t =>
  cases e with
  | none=>rfl
  | some s =>
   have hne:s≠t:=fun e=>h t rfl (by rw [e])
   funext x
   simp only [putA,eO]
   by_cases h1:x=s
   ·subst h1;simp [hne]
   ·simp [h1]
def pD (w0:World) (P:Program) (ops:Array Oper) (o:Oper) (v:AV) (fp:List Nat) (env:dK) (S:List aH):Prop :=
 (cG ops env o=some false∧v=.tup [])∨(cG ops env o=some true∧kw o.op=true∧mv (bK w0 env) o.op=fp∧en P S (bK w0 env) o.op=some (v,S))
theorem pD.later {o oj:Oper}{v u:AV}{fp:List Nat}{S':List aH} (h:pD w0 P ops o v fp env S) (hap:∀ t,oj.dst=some t→t∉o.looksAt ops) (hS:∀ a∈fp,S'[a]? = S[a]?):pD w0 P ops o v fp (putA env oj.dst u) S':=by
 rcases h with⟨h1,h2⟩ | ⟨h1,h2,h3,h4⟩
 ·exact .inl ⟨by rw [lP hap];exact h1,h2⟩
 ·have hop:=lJ (w0:=w0) (env:=env) (v:=u) hap
  refine .inr ⟨by rw [lP hap];exact h1,h2,by rw [y_ hop];exact h3, ?_⟩
  rw [jB hop,oW h2]
  rw [oW h2] at h4
  rw [yH (S:=S) (S':=S') (by rw [h3];exact hS)]
  cases hp:gw P S (bK w0 env) o.op with
  | none=>rw [hp] at h4;cases h4
  | some x=>rw [hp] at h4;simp at h4 ⊢;exact h4
theorem FQ {d:Option Nat}{v:AV} (hd:fg N d=true) (hN:N≤DS):putA env d v DS=env DS:=by
 cases d with
 | none=>rfl
 | some t =>
  have:t<N:=by simpa [fg] using hd
  simp only [putA,eO]
  rw [if_neg (by omega)]
theorem uE {i:Nat}{oi:Oper}{v:AV}{fp:List Nat} (hi:ops[i]? = some oi) (hd:fg N oi.dst=true) (hN:N≤DS) (hQ:∀ v env env' S,env' DS=env DS→Q (.panic v) env S→Q (.panic v) env' S) :
  ∀ (f:Nat) (listed:Array Bool) (prot:List (Nat × List Nat)) (env:dK) (S:List aH),
   (∀ j oj,ops[j]? = some oj→j≠i→listed.getD j true=false→(∀ e∈oj.after,eS .any e=true→e.on≠i)→oi.apart ops oj=true) →
   i∈c_ .any ops listed→pD w0 P ops oi v fp env S→dI P w0 n0 N r ops k Q f (listed.setIfInBounds i true) ((i,fp)::prot) (putA env oi.dst v) S→dI P w0 n0 N r ops k Q (f+1) listed prot env S:=by
 intro f
 induction f with
 | zero =>
  intro listed prot env S hfree hr hrd h
  refine⟨fun e=>(by rw [e] at hr;cases hr),fun j hj=>?_⟩
  by_cases hji:j=i
  ·subst hji
   refine⟨oi,hi,hd, ?_⟩
   rcases hrd with⟨h1,h2⟩ | ⟨h1,h2,h3,h4⟩
   ·subst h2
    exact .inl ⟨h1,gj,f_ _ _ _ _ h⟩
   ·exact .inr (.inl ⟨h1,v,S,h4,gj,f_ _ _ _ _ h⟩)
  ·have:=ready_mono hj hji
   rw [h.1] at this;cases this
 | succ f ih =>
  intro listed prot env S hfree hr hrd h
  refine⟨fun e=>(by rw [e] at hr;cases hr),fun j hj=>?_⟩
  by_cases hji:j=i
  ·subst hji
   refine⟨oi,hi,hd, ?_⟩
   rcases hrd with⟨h1,h2⟩ | ⟨h1,h2,h3,h4⟩
   ·subst h2
    exact .inl ⟨h1,gj,f_ _ _ _ _ h⟩
   ·exact .inr (.inl ⟨h1,v,S,h4,gj,f_ _ _ _ _ h⟩)
  ·obtain⟨hun,oj,hoj,hall⟩:=mem_ready.1 hj
   have hiu:listed.getD i false=false:=by
    have:=(mem_ready.1 hr).1
    simp only [aK] at this ⊢
    cases e:listed[i]? with
    | none=>rfl
    | some b=>rw [e] at this;simpa using this
   have hno:∀ e∈oj.after,eS .any e=true→e.on≠i:=fun e he hb heq=>by
    have:=hall e he hb
    rw [heq,hiu] at this;cases this
   have hap:=hfree j oj hoj hji hun hno
   obtain⟨a1,a2,a3⟩:=Oper.apart_spec hap
   have hrel:j7 ops j i=true:=by
    unfold j7
    simp only [hoj]
    simp only [ax,Array.any_eq_false']
    intro e he
    by_cases hb:eS .any e=true
    ·simp [hb,hno e he hb]
    ·simp [hb]
   obtain⟨o,ho,hdj,hcase⟩:=h.2 j (ready_mono hj hji)
   rw [hoj] at ho;cases ho
   have hcomm:(listed.setIfInBounds i true).setIfInBounds j true=(listed.setIfInBounds j true).setIfInBounds i true:=by
    apply ma
    intro m
    simp only [ct]
    by_cases h1:i=m<;>by_cases h2:j=m<;>simp_all
   have hop:=lJ (w0:=w0) (env:=env) (v:=v) a1
   have hgd:=lP (env:=env) (v:=v) a1
   have next:∀ (u:AV) (S':List aH),(cU ops j ((i,fp)::prot) S S'∧dI P w0 n0 N r ops k Q f ((listed.setIfInBounds i true).setIfInBounds j true) ((i,fp)::prot) (putA (putA env oi.dst v) oj.dst u) S') →
     cU ops j prot S S'∧dI P w0 n0 N r ops k Q (f+1) (listed.setIfInBounds j true) prot (putA env oj.dst u) S':=by
    rintro u S' ⟨hp,hk⟩
    refine⟨hp.2,ih _ prot _ S' ?_ (ready_mono hr (fun e=>hji e.symm)) (hrd.later a3 (hp.1 hrel)) ?_⟩
    ·intro m om hom hmi hmu hmno
     refine hfree m om hom hmi ?_ hmno
     by_cases hmj:m=j
     ·subst hmj
      simp only [aK,ct] at hmu ⊢
      by_cases hlt:m<listed.size
      ·simp [hlt] at hmu
      ·simp [hlt] at hmu
     ·rw [getD_set_ne true (fun e=>hmj e.symm)] at hmu;exact hmu
    ·rw [← hcomm,← t8 a2];exact hk
   refine⟨oj,hoj,hdj, ?_⟩
   rcases hcase with⟨b1,b2⟩ | ⟨b1,u,S',b2,b3⟩ | ⟨b1,fop,args,tys,fn,first,cap,sh,b2,b3,b4⟩
   ·exact .inl ⟨by rw [← hgd];exact b1,next _ _ b2⟩
   ·exact .inr (.inl ⟨by rw [← hgd];exact b1,u,S',by rw [← jB hop];exact b2,next _ _ b3⟩)
   ·have hargs:args.toList.map (bK w0 (putA env oi.dst v))=args.toList.map (bK w0 env):=jh fun y hy=>hop y (by rw [b2];simp [bV,Call.operands];exact .inr (by simpa using hy))
    have hfop:bK w0 (putA env oi.dst v) fop=bK w0 env fop:=hop fop (by rw [b2];simp [bV,Call.operands])
    refine .inr (.inr ⟨by rw [← hgd];exact b1,fop,args,tys,fn,first,cap,sh,b2,by rw [← hfop];exact b3, ?_⟩)
    rw [hargs] at b4
    refine b4.mono fun out S' hk=>?_
    cases out with
    | ret u=>exact next u S' hk
    | panic u=>exact hQ u _ _ _ (FQ hd hN).symm hk
end
end Go.Fen
namespace Go.Fen
open Go.RowKit
def qF (ops:Array Oper) (listed:Array Bool):Option Nat :=
 (c_ .any ops listed).find? fun i=>(match ops[i]? with
  | some o=>kw o.op
  | none=>false)&&Region.free .any ops listed i
theorem oe {ops:Array Oper}{listed:Array Bool}{i:Nat} (h:qF ops listed=some i):i∈c_ .any ops listed∧(∀ o,ops[i]? = some o→kw o.op=true)∧Region.free .any ops listed i=true:=by
 have h1:=qu h
 have h2:=List.find?_some h
 simp only [aB] at h2
 exact⟨h1,fun o ho=>by rw [ho] at h2;exact h2.1,h2.2⟩
def KT (Q:cR):Prop:=∀ v env env' S,env' DS=env DS→Q (.panic v) env S→Q (.panic v) env' S
theorem eV {P:Program}{F:Func}{S0:List aH}{R:ed→List aH→Prop}:KT (kX P F S0 R):=by
 intro v env env' S he h
 obtain⟨ms,S1,h1,h2⟩:=h
 exact⟨ms,S1,he.trans h1,h2⟩
section
variable {P:Program}{w0:World}{n0 N:Nat}{r:Option Nat}{ops:Array Oper}{Q:cR}{k:List TI}{env:dK}{S:List aH}{f:Nat}{listed:Array Bool}{prot:List (Nat × List Nat)}
theorem eR {id n:Nat} (hm:P.follows .mixedOrders=true) (hn:ops.size=n) (h:dI P w0 n0 N r ops k Q n (cr n false) [] env S):ba P w0 n0 N r (.it (.code (.region id ops true))::k) Q .normal env S :=
 Iz hm (by rw [hn];exact h)
theorem oC (hr:c_ .any ops listed=[]) (h:ba P w0 n0 N r k Q .normal env S):dI P w0 n0 N r ops k Q f listed prot env S:=by
 cases f with
 | zero=>exact⟨hr,h⟩
 | succ f=>exact⟨fun _=>h,fun i hi=>by rw [hr] at hi;cases hi⟩
theorem KD (i:Nat){oi:Oper}{v:AV}{fp:List Nat} (hn:qF ops listed=some i) (hQ:KT Q) (hN:decide (N≤DS)=true) (hi:ops[i]? = some oi) (hg:cG ops env oi=some true) (hs:en P S (bK w0 env) oi.op=some (v,S))
  (hd:fg N oi.dst=true) (hfp:mv (bK w0 env) oi.op=fp) (h:dI P w0 n0 N r ops k Q f (listed.setIfInBounds i true) ((i,fp)::prot) (putA env oi.dst v) S):dI P w0 n0 N r ops k Q (f+1) listed prot env S:=by
 obtain⟨h1,h2,h3⟩:=oe hn
 exact uE hi hd (by simpa using hN) hQ f listed prot env S (EF hi h3) h1 (.inr ⟨hg,h2 _ hi,hfp,hs⟩) h
theorem L9 (i:Nat){oi:Oper} (hn:qF ops listed=some i) (hQ:KT Q) (hN:decide (N≤DS)=true) (hi:ops[i]? = some oi) (hg:cG ops env oi=some false)
  (hd:fg N oi.dst=true) (h:dI P w0 n0 N r ops k Q f (listed.setIfInBounds i true) ((i,[])::prot) (putA env oi.dst (.tup [])) S):dI P w0 n0 N r ops k Q (f+1) listed prot env S:=by
 obtain⟨h1,h2,h3⟩:=oe hn
 exact uE hi hd (by simpa using hN) hQ f listed prot env S (EF hi h3) h1 (.inl ⟨hg,rfl⟩) h
theorem L_ (i:Nat) (hr:c_ .any ops listed=[i]) (h:ie P w0 N ops Q i (fun env' S'=>cU ops i prot S S'∧dI P w0 n0 N r ops k Q f (listed.setIfInBounds i true) prot env' S') env S):dI P w0 n0 N r ops k Q (f+1) listed prot env S :=
 ⟨fun e=>(by rw [e] at hr;cases hr),fun j hj=>(by
  rw [hr] at hj
  obtain rfl:j=i:=by simpa using hj
  exact h)⟩
variable {i:Nat}{o:Oper}{K:dK→List aH→Prop}
theorem mS {v:AV}{S':List aH} (hi:ops[i]? = some o) (hg:cG ops env o=some true) (hs:en P S (bK w0 env) o.op=some (v,S')) (hd:fg N o.dst=true) (h:K (putA env o.dst v) S'):ie P w0 N ops Q i K env S :=
 ⟨o,hi,hd,.inr (.inl ⟨hg,v,S',hs,h⟩)⟩
theorem sj (hi:ops[i]? = some o) (hg:cG ops env o=some false) (hd:fg N o.dst=true) (h:K (putA env o.dst (.tup [])) S):ie P w0 N ops Q i K env S :=
 ⟨o,hi,hd,.inl ⟨hg,h⟩⟩
def cw (Q:cR) (K:dK→List aH→Prop) (env:dK) (dst:Option Nat):ed→List aH→Prop
 | .ret v,S'=>K (putA env dst v) S'
 | .panic v,S'=>Q (.panic v) env S'
theorem od {fop:Operand}{args:Array Operand}{tys:Array TypeId}{g:FuncId}{first cap A:List AV}{S1:List aH} (sh:List Nat) (hi:ops[i]? = some o) (hg:cG ops env o=some true)
  (ho:o.op=.call ⟨.value fop,args,tys⟩) (hf:bK w0 env fop=.fn (.func g) first cap) (hd:fg N o.dst=true)
  (hS:sh.foldl dS S=S1) (hA:EL S1 (first++args.toList.map (bK w0 env)++cap)=A) (h:az P w0 g A S1 (cw Q K env o.dst)):ie P w0 N ops Q i K env S:=by
 subst hS hA
 refine⟨o,hi,hd,.inr (.inr ⟨hg,fop,args,tys,g,first,cap,sh,ho,hf,h.mono fun out S' hk=>?_⟩)⟩
 cases out<;>exact hk
theorem n6 {S S':List aH} (h:K env S'):cU ops i [] S S'∧K env S':=⟨trivial,h⟩
theorem lI {B:Prop} (h:B):cU ops i prot S S∧B:=⟨gj,h⟩
theorem sb {S S':List aH}{B:Prop} (h1:cU ops i prot S S') (h:B):cU ops i prot S S'∧B:=⟨h1,h⟩
theorem aE {S S':List aH}:cU ops i [] S S':=trivial
theorem gI {p:Nat}{S S':List aH} (h:cU ops i prot S S'):cU ops i ((p,[])::prot) S S':=⟨fun _ _ ha=>(by cases ha),h⟩
theorem j8 {p:Nat × List Nat}{S S':List aH} (hp:j7 ops i p.1=false) (h:cU ops i prot S S'):cU ops i (p::prot) S S':=⟨fun e=>(by rw [e] at hp;cases hp),h⟩
theorem mP {p a:Nat}{S S':List aH} (ha:S'[a]? = S[a]?) (h:cU ops i prot S S'):cU ops i ((p,[a])::prot) S S':=⟨fun _ b hb=>(by
 obtain rfl:b=a:=by simpa using hb
 exact ha),h⟩
end
theorem di.thawCell {w0 w:World}{ι:List Pl}{ψ:eA}{S:List aH} (h:di w0 ι ψ S w){a j:Nat}{cs:List AV}{ty:Option TypeId} (e:TypeId) (sz:Nat) (ha:S[a]? = some (.cells cs ty)) (hj:cs[j]? = some .snil) (hpos:0<sz) :
  di w0 (ι++[⟨0,0,.slice none 0 0,sz⟩]) ψ ((S++[aH.arr e sz 0 0 []]).set a (.cells (cs.set j (.sown S.length 0 0)) ty)) w:=by
 have hth:=h.thaw e sz hpos
 have hlt:a<S.length:=(aw.1 ha).1
 have ha':(S++[aH.arr e sz 0 0 []])[a]? = some (.cells cs ty):=by rw [aJ hlt];exact ha
 obtain⟨pl,hpl,hB⟩:=hth.get ha'
 have hset:(ι++[(⟨0,0,.slice none 0 0,sz⟩:Pl)]).set a pl=ι++[⟨0,0,.slice none 0 0,sz⟩]:=gL hpl
 have key:=hth.update (w':=w) (ψ':=ψ) (B':=.cells (cs.set j (.sown S.length 0 0)) ty) (pl':=pl) ha' hpl (Ch _ _) (fun _ _ _=>rfl) (by rw [hset];exact d_.refl _ _) ?_ (fun k hk=>.inl hk) (fun b o v ev=>.inl ⟨ev,fun hk=>?_⟩) rfl
 ·rw [hset] at key;exact key
 ·rw [hset]
  obtain⟨h0,⟨c,T,h1,h2,h3⟩,h4,h5⟩:=hB
  refine⟨h0,⟨c,T,h1,by simpa using h2,fun m x ex=>?_⟩,h4,h5⟩
  by_cases hm:m=j
  ·subst hm
   have hml:m<cs.length:=(aw.1 hj).1
   simp [hml] at ex
   subst ex
   obtain⟨_,v,hv,hr⟩:=h3 m _ hj
   cases hr
   exact⟨rfl,_,hv,.sown _ _ _ _ _ ⟨0,0,.slice none 0 0,sz⟩ (by rw [← h.len];simp) (bg _) (fun _=>rfl)⟩
  ·rw [cN (fun e=>hm e.symm)] at ex
   exact h3 m x ex
 ·simp [aH.at] at hk
  obtain⟨_,_,h4,_⟩:=hB
  rw [← hk,h4 o] at ev;cases ev
theorem lD {P:Program}{w0:World}{n0 N:Nat}{r:Option Nat}{Q:cR}{k:List TI}{env:dK}{S:List aH}{i:KI}{a j:Nat}{cs:List AV}{ty:Option TypeId} (e:TypeId) (sz:Nat) (ha:S[a]? = some (.cells cs ty)) (hj:cs[j]? = some .snil) (hpos:0<sz)
  (h:ba P w0 n0 N r (.it i::k) Q .normal env ((S++[aH.arr e sz 0 0 []]).set a (.cells (cs.set j (.sown S.length 0 0)) ty))):ba P w0 n0 N r (.it i::k) Q .normal env S:=by
 intro ι ψ w ac hR hE
 have hx:=d_.push ι ψ ⟨0,0,.slice none 0 0,sz⟩
 exact KI.mono (h _ _ w ac (hR.thawCell e sz ha hj hpos) (hE.mono hx)) fun e a2 w2 hp=>hp.chain (hx.take n0)
attribute [go_sem] mv wr cw
end Go.Fen
namespace Go.Fen
open Go.RowKit
variable {P:Program}{w0 w w':World}{ι:List Pl}{ψ:eA}{S:List aH}
def tN (tm:List (Nat × AV)):dK:=tm.foldr (fun p e=>eO e p.1 p.2) (fun t=>if t=DS then .dfr [] else .junk)
theorem Kw {N:Nat}{tm:List (Nat × AV)}{vs:Array Value} (hs:vs.size=N) (hN:N≤DS) (hlt:∀ p∈tm,p.1<N) (h:∀ p∈tm,VR ι ψ p.2 (vs.getD p.1 undef)):gr ι ψ N (tN tm) { tmps:=vs,defers:=[] }:=by
 induction tm with
 | nil =>
  refine⟨hs,hN,⟨[],[],by simp [tN],rfl,by simp,rfl⟩,fun t=>?_⟩
  simp only [tN,List.foldr_nil]
  split
  ·next ht =>
   have:vs.getD t undef=undef:=by
    rw [aK,dB (by omega)];rfl
   rw [this];exact .dfr [] [] rfl (by simp)
  ·exact .junk _
 | cons p tm ih =>
  have hE:=ih (fun q hq=>hlt q (by simp [hq])) (fun q hq=>h q (by simp [hq]))
  have hp:=hlt p (by simp)
  refine⟨hs,hN, ?_,fun t=>?_⟩
  ·obtain⟨l,ws,h1,h2⟩:=hE.defers
   exact⟨l,ws,by simp only [tN,List.foldr_cons,eO];rw [if_neg (by omega)];exact h1,h2⟩
  ·simp only [tN,List.foldr_cons,eO]
   split
   ·next ht=>subst ht;exact h p (by simp)
   ·exact hE.tmp t
def wS (env:dK):List (Nat × AV)→dK
 | []=>env
 | p::l=>wS (eO env p.1 p.2) l
theorem I1 {N:Nat}:∀ (ps:List Tmp) (xs:List AV) (cs:List Value) (env:dK) (vs:Array Value),gr ι ψ N env { tmps:=vs,defers:=[] }→ps.length=xs.length→xs.length=cs.length→(∀ p∈ps,p<N) →
  (∀ (j:Nat) (x:AV) (c:Value),xs[j]? = some x→cs[j]? = some c→VR ι ψ x c)→gr ι ψ N (wS env (ps.zip xs)) { tmps:=(ps.zip cs).foldl (fun tmps p=>tmps.setIfInBounds p.1 p.2) vs,defers:=[] }:=by
 intro ps
 induction ps with
 | nil=>intro xs cs env vs hE _ _ _ _;simpa [wS] using hE
 | cons p ps ih =>
  intro xs cs env vs hE h1 h2 hlt hv
  cases xs with
  | nil=>simp at h1
  | cons x xs =>
   cases cs with
   | nil=>simp at h2
   | cons c cs =>
    simp only [List.zip_cons_cons,wS,h_]
    have:=hE.put (d:=p) (hv 0 x c rfl rfl) (hlt p (by simp))
    exact ih xs cs _ _ this (by simpa using h1) (by simpa using h2) (fun q hq=>hlt q (by simp [hq])) (fun j x c hx hc=>hv (j+1) x c (by simpa using hx) (by simpa using hc))
def uH (a:Nat) (R:ed→List aH→Prop):cR
 | .normal,_,S=>∃ st pend N tm ps asg body,S[a]? = some (.loop st pend N tm ps asg body)∧R (.ret (.bool true)) (S.set a (.loop .ready none N tm ps asg body))
 | .ret,_,S=>∃ st pend N tm ps asg body,S[a]? = some (.loop st pend N tm ps asg body)∧R (.ret (.bool false)) (S.set a (.loop .done (some .ret) N tm ps asg body))
 | .exit id,_,S=>∃ st pend N tm ps asg body,S[a]? = some (.loop st pend N tm ps asg body)∧R (.ret (.bool false)) (S.set a (.loop .done (some (.exit id)) N tm ps asg body))
 | _,_,_=>False
def YA (P:Program) (w0:World) (a:Nat) (args:List AV) (S:List aH) (R:ed→List aH→Prop):Prop :=
 ∃ pend N tm ps asg body,S[a]? = some (.loop .ready pend N tm ps asg body)∧ps.size=args.length∧N≤DS∧(∀ p∈tm,p.1<N)∧(∀ p∈ps.toList,p<N) ∧
  ∀ rb:Nat,ba P w0 S.length N (some rb) [.it (.code asg)] (fun x env1 S1=>x=.normal∧∃ pend',S1[a]? = some (.loop .ready pend' N tm ps asg body) ∧
   ba P w0 S.length N (some rb) [.it (.code body)] (uH a R) .normal env1 (S1.set a (.loop .busy pend' N tm ps asg body))) .normal (wS (tN tm) (ps.toList.zip args)) S
theorem YA.mono {a:Nat}{args:List AV}{R R':ed→List aH→Prop} (h:YA P w0 a args S R) (hr:∀ o S,R o S→R' o S)
  (hm:∀ {n0 N:Nat}{r:Option Nat}{c:Code}{Q Q':cR}{env:dK}{S:List aH},(∀ x e S,Q x e S→Q' x e S)→ba P w0 n0 N r [.it (.code c)] Q .normal env S→ba P w0 n0 N r [.it (.code c)] Q' .normal env S):YA P w0 a args S R':=by
 obtain⟨pend,N,tm,ps,asg,body,h1,h2,h3,h4,h5,h6⟩:=h
 refine⟨pend,N,tm,ps,asg,body,h1,h2,h3,h4,h5,fun rb=>hm ?_ (h6 rb)⟩
 rintro x e S ⟨rfl,pend',k1,k2⟩
 refine⟨rfl,pend',k1,hm (fun x e S hq=>?_) k2⟩
 cases x with
 | normal=>obtain⟨st,pend,N,tm,ps,asg,body,q1,q2⟩:=hq;exact⟨st,pend,N,tm,ps,asg,body,q1,hr _ _ q2⟩
 | ret=>obtain⟨st,pend,N,tm,ps,asg,body,q1,q2⟩:=hq;exact⟨st,pend,N,tm,ps,asg,body,q1,hr _ _ q2⟩
 | exit id=>obtain⟨st,pend,N,tm,ps,asg,body,q1,q2⟩:=hq;exact⟨st,pend,N,tm,ps,asg,body,q1,hr _ _ q2⟩
 | goto l=>exact hq
 | panic v=>exact hq
theorem Dc {n0 N:Nat}{r:Option Nat}{c:Code}{Q Q':cR}{env:dK} (hq:∀ x e S,Q x e S→Q' x e S) (h:ba P w0 n0 N r [.it (.code c)] Q .normal env S):ba P w0 n0 N r [.it (.code c)] Q' .normal env S :=
 fun ι ψ w a hR hE=>KI.mono (it:=.code c) (h ι ψ w a hR hE) fun _ _ _ ⟨ι',ψ',x,env',S',h1,h2,h3,h4,h5⟩=>⟨ι',ψ',x,env',S',h1,h2,h3,h4,hq x env' S' h5⟩
theorem wV {a:Nat}{R:ed→List aH→Prop}{n0 N:Nat}{pl:Pl} (hpl:ι[a]? = some pl) (ha:a<n0){e:Exit}{ac:Act}{w1:World}
  (hp:lw w0 n0 N ι ψ (uH a R) e ac w1):roundPost P pl.blk (fun e2 w2=>∃ ι' ψ' out S',d_ (ι.take n0) ψ ι' ψ'∧di w0 ι' ψ' S' w2∧nh ι' ψ' out e2∧R out S') e ac w1:=by
 obtain⟨ι',ψ',x,env',S',h1,h2,h3,h4,h5⟩:=hp
 obtain⟨p',hp',hb,_⟩:=h1.pl a pl (by rw [bu,if_pos ha];exact hpl)
 have fin:∀ (jump:Option Code) (st:LoopState) (pend:Option Code) (N:Nat) (tm:List (Nat × AV)) (ps:Array Tmp) (asg body:Code),S'[a]? = some (.loop st pend N tm ps asg body) →
   R (.ret (.bool jump.isNone)) (S'.set a (.loop (if jump.isNone then .ready else .done) jump N tm ps asg body)) →
   ∃ v w2,(Instr.endRound pl.blk jump).run P w1=.ok v w2∧∃ ι'' ψ'' out S'',d_ (ι.take n0) ψ ι'' ψ''∧di w0 ι'' ψ'' S'' w2∧nh ι'' ψ'' out (.returned v)∧R out S'':=by
  intro jump st pend N tm ps asg body hS hR
  obtain⟨q0,⟨fn,vs,d,q1,q2,q3⟩,q4,q5⟩:=h2.blk a _ p' hS hp'
  rw [← hb]
  refine⟨_,_,run_endRound jump q1,ι',ψ',.ret (.bool jump.isNone),_,h1, ?_,.bool _,hR⟩
  refine h2.putBlk hS hp' rfl rfl q4 (by intro es e;cases e) ?_
  exact⟨q0,⟨fn,vs,d,eD (eG q1),q2,q3⟩,q4,q5⟩
 cases x with
 | normal =>
  cases e<;>simp only [XR] at h4
  obtain⟨st,pend,N,tm,ps,asg,body,k1,k2⟩:=h5
  exact fin none st pend N tm ps asg body k1 k2
 | ret =>
  cases e<;>simp only [XR] at h4
  obtain⟨st,pend,N,tm,ps,asg,body,k1,k2⟩:=h5
  exact fin (some .ret) st pend N tm ps asg body k1 k2
 | exit id =>
  cases e<;>simp only [XR] at h4
  subst h4
  obtain⟨st,pend,N,tm,ps,asg,body,k1,k2⟩:=h5
  exact fin (some (.exit id)) st pend N tm ps asg body k1 k2
 | goto l=>exact h5.elim
 | panic v=>exact h5.elim
section
variable {n0 N:Nat}{r:Option Nat}{Q:cR}{k:List TI}{env:dK}
theorem Cr {all:Array Oper}{o:Oper}{l:List Oper}{fop:Operand}{args:Array Operand}{tys:Array TypeId}{a:Nat}
  (hg:cG all env o=some true) (ho:o.op=.call ⟨.value fop,args,tys⟩) (hf:bK w0 env fop=.yld a) (hd:fg N o.dst=true)
  (h:YA P w0 a (args.toList.map (bK w0 env)) S (aR P w0 n0 N r all l k Q env o.dst)) :
  ba P w0 n0 N r (.it (.ops all (o::l))::k) Q .normal env S:=by
 intro ι ψ w ac hR hE
 have hw:=dt hE hg
 refine ew hw (fun c hc=>by rw [hc] at ho;cases ho) ?_
 obtain⟨pend,N',tm,ps,asg,body,h1,h2,h3,h4,h5,h6⟩:=h
 have hvf:=hE.eval hR fop
 rw [hf] at hvf
 generalize hcf:ac.eval fop=cf at hvf
 cases hvf with
 | yld _ pl hpl =>
  obtain⟨q0,⟨fn,vs,d,q1,q2,q3⟩,q4,q5⟩:=hR.blk a _ pl h1 hpl
  have hsz:(args.map ac.eval).size=ps.size:=by rw [h2];simp
  have hres:(execOp ac.eval o).run P w=.ok (.round pl.blk fn ((ps.zip (args.map ac.eval)).foldl (fun tmps (t,a)=>tmps.setIfInBounds t a) vs) asg body) w:=by
   have hy:=run_yield (P:=P) (args:=args.map ac.eval) q1 hsz
   simp only [execOp,ho,resolve,hcf,Deferred.ofValue,invoke,cS,gC,dd,Array.empty_append]
   first
   | exact hy
   | simpa using hy
  rw [hres]
  refine⟨fun h=>sO r h, ?_⟩
  have ha:a<S.length:=(aw.1 h1).1
  have hE0:gr ι ψ N' (wS (tN tm) (ps.toList.zip (args.toList.map (bK w0 env)))) { tmps:=(ps.zip (args.map ac.eval)).foldl (fun tmps (t,a)=>tmps.setIfInBounds t a) vs,defers:=[] }:=by
   have:=I1 (ι:=ι) (ψ:=ψ) ps.toList (args.toList.map (bK w0 env)) (args.map ac.eval).toList (tN tm) vs (Kw q2 h3 h4 q3) (by simpa using h2) (by simp) h5 (fun j x c hx hc=>by
    simp only [aQ,aW,Array.toList_map] at hx hc
    obtain⟨y,hy,rfl⟩:=hx
    obtain⟨z,hz,rfl⟩:=hc
    rw [hy] at hz;cases hz
    exact hE.eval hR y)
   rw [← Array.foldl_toList,Array.toList_zip]
   exact this
  have key:RoundIn (FR r) (0 - 1) P pl.blk fn ((ps.zip (args.map ac.eval)).foldl (fun tmps (t,a)=>tmps.setIfInBounds t a) vs) asg body w
    (fun e2 w2=>∃ ι' ψ' out S',d_ (ι.take S.length) ψ ι' ψ'∧di w0 ι' ψ' S' w2∧nh ι' ψ' out e2∧aR P w0 n0 N r all l k Q env o.dst out S'):=by
   refine roundIn_of_wpIn trivial ?_
   have hF:(FR r).inRound pl.blk=FR (some pl.blk):=rfl
   rw [hF]
   refine wpIn_mono ((h6 pl.blk) ι ψ w _ hR hE0) fun e a1 w1 hp=>?_
   obtain⟨ι1,ψ1,x1,env1,S1,e1,e2,e3,e4,rfl,pend',e5,e6⟩:=hp
   cases e<;>simp only [XR] at e4
   obtain⟨p1,hp1,hb1,_⟩:=e1.pl a pl (by rw [bu,if_pos ha];exact hpl)
   obtain⟨r0,⟨fn',vs',d',r1,r2,r3⟩,r4,r5⟩:=e2.blk a _ p1 e5 hp1
   rw [← hb1]
   refine⟨_,run_beginRound r1 rfl, ?_⟩
   have hR2:di w0 ι1 ψ1 (S1.set a (.loop .busy pend' N' tm ps asg body)) (w1.putObj p1.blk (.loop { state:=.busy,pending:=pend',fn:=fn',tmps:=vs',params:=ps,assign:=asg,body,defers:=d' })) :=
    e2.putBlk e5 hp1 rfl rfl r4 (by intro es e;cases e) ⟨r0,⟨fn',vs',d',eD (eG r1),r2,r3⟩,r4,r5⟩
   have hrun:=e6 ι1 ψ1 _ a1 hR2 e3
   rw [hb1] at hrun ⊢
   refine wpIn_mono hrun fun ex a2 w2 hp2=>?_
   have:=wV (P:=P) hp1 ha hp2
   rw [hb1] at this
   cases ex with
   | normal=>obtain⟨v,w3,s1,ι3,ψ3,out,S3,s2,s3⟩:=this;exact⟨v,w3,s1,ι3,ψ3,out,S3,e1.chain s2,s3⟩
   | ret=>obtain⟨v,w3,s1,ι3,ψ3,out,S3,s2,s3⟩:=this;exact⟨v,w3,s1,ι3,ψ3,out,S3,e1.chain s2,s3⟩
   | exit id=>obtain⟨v,w3,s1,ι3,ψ3,out,S3,s2,s3⟩:=this;exact⟨v,w3,s1,ι3,ψ3,out,S3,e1.chain s2,s3⟩
   | goto l=>obtain⟨v,w3,s1,ι3,ψ3,out,S3,s2,s3⟩:=this;exact⟨v,w3,s1,ι3,ψ3,out,S3,e1.chain s2,s3⟩
   | panic ch=>exact this
   | outgrown=>exact this
  refine key.mono ?_
  rintro e w' ⟨ι',ψ',out,S',e1,e2,e3,e4⟩
  have hx:d_ ι ψ ι' ψ':=by rw [← hR.len,bQ] at e1;exact e1
  cases out with
  | ret v =>
   cases e<;>simp only [nh] at e3
   exact KI.mono (it:=.ops all l) (e4 ι' ψ' w' _ e2 ((hE.mono hx).putA e3 hd)) fun e a2 w2 hp=>hp.chain (hx.take n0)
  | panic v =>
   cases e<;>simp only [nh] at e3
   exact⟨ι',ψ',.panic v,env,S',hx.take n0,e2,hE.mono hx,e3,e4⟩
def oE (P:Program) (w0:World) (n0 N:Nat) (m:Nat) (k:List TI) (Q:cR) (env:dK):ed→List aH→Prop
  | .ret _,S=>∃ st pend N' tm ps asg body,S[m]? = some (.loop st pend N' tm ps asg body)∧(st==.busy)=false ∧
      (match pend with
       | none=>ba P w0 n0 N none k Q .normal env (S.set m (.loop .exhausted pend N' tm ps asg body))
       | some c=>ba P w0 n0 N none (.it (.code c)::k) Q .normal env (S.set m (.loop .exhausted pend N' tm ps asg body)))
  | .panic v,S=>ba P w0 n0 N none k Q (.panic v) env S
theorem ww {g:Operand}{ps:Array Tmp}{asg body:Code}{f:FuncId}{first cap ds:List AV} (keep:List Nat) (hf:bK w0 env g=.fn (.func f) first cap) (hds:env DS=.dfr ds)
  (hk:keep.all (fun t=>decide (t<N))=true)
  (h:az P w0 f (first++[.yld (S.length+1)]++cap) (S++[.obj (.deferred (some [])),.loop .ready none N (keep.map fun t=>(t,env t)) ps asg body])
   (oE P w0 n0 N (S.length+1) k Q (eO env DS (.dfr (.own S.length 0::ds))))) :
  ba P w0 n0 N none (.it (.code (.rangeFunc g ps asg body))::k) Q .normal env S:=by
 intro ι ψ w a hR hE
 refine wpIn_rangeFunc fun fn _=>?_
 let B:=w.heap.size
 have hlen:=hR.len
 obtain⟨ds',dvs,d1,d2,d3,d4⟩:=hE.defers
 rw [hds] at d1;cases d1
 have hR1:di w0 (ι++[⟨B,0,undef,0⟩]) ψ (S++[.obj (.deferred (some []))]) (w.alloc (.deferred (some []))) :=
  hR.newBlk _ _ (fun _=>rfl) ⟨hR.n0,ka w _,(fun e=>by cases e),fun k=>hR.psi_new (bg _) k,hR.psim_new (bg _)⟩
 have hB1:(w.alloc (.deferred (some []))).heap.size=B+1:=by simp [B]
 have hx1:=d_.push ι ψ ⟨B,0,undef,0⟩
 have rn:=d_.push (ι++[⟨B,0,undef,0⟩]) ψ ⟨B+1,0,undef,0⟩
 have hR2:di w0 (ι++[⟨B,0,undef,0⟩]++[⟨B+1,0,undef,0⟩]) ψ (S++[.obj (.deferred (some []))]++[.loop .ready none N (keep.map fun t=>(t,env t)) ps asg body])
   ((w.alloc (.deferred (some []))).alloc (.loop { state:=.ready,pending:=none,fn,tmps:=a.tmps,params:=ps,assign:=asg,body,defers:=B })):=by
  have:=hR1.newBlk (.loop { state:=.ready,pending:=none,fn,tmps:=a.tmps,params:=ps,assign:=asg,body,defers:=B }) (.loop .ready none N (keep.map fun t=>(t,env t)) ps asg body) (fun _=>rfl)
   ⟨hR1.n0,⟨fn,a.tmps,B,ka _ _,hE.size,fun p hp=>by
    obtain⟨t,_,rfl⟩:=aX.1 hp
    exact((hE.tmp t).mono hx1).mono (by rw [← hB1] at rn;exact rn)⟩,fun k=>hR1.psi_new (bg _) k,hR1.psim_new (bg _)⟩
  rw [hB1] at this
  exact this
 have hx12:=hx1.trans rn
 have hSS:S++[.obj (.deferred (some []))]++[.loop .ready none N (keep.map fun t=>(t,env t)) ps asg body]=S++[.obj (.deferred (some [])),.loop .ready none N (keep.map fun t=>(t,env t)) ps asg body]:=by simp
 rw [hSS] at hR2
 have hvf:=hE.eval hR g
 rw [hf] at hvf
 generalize hcf:a.eval g=cf at hvf
 cases hvf with
 | fn _ _ _ vf vc hl1 hl2 h1 h2 =>
  refine⟨B+1,[{ target:=.collected B,args:=#[] }],_,{ target:=.fn (.func f) vc,args:=vf++#[.func (.yield (B+1)) #[] #[]] },((w.alloc (.deferred (some []))).alloc (.loop { state:=.ready,pending:=none,fn,tmps:=a.tmps,params:=ps,assign:=asg,body,defers:=B })),f,vf++#[.func (.yield (B+1)) #[] #[]]++vc,((w.alloc (.deferred (some []))).alloc (.loop { state:=.ready,pending:=none,fn,tmps:=a.tmps,params:=ps,assign:=asg,body,defers:=B })),run_enterLoop_outer fn a.tmps ps asg body, ?_,fun _ _=>trivial, ?_,fun h=>by simp [FR,Fence.wide] at h, ?_⟩
  ·have hargs:(#[Operand.const (.func (.yield (B+1)) #[] #[])]:Array Operand).map a.eval=#[.func (.yield (B+1)) #[] #[]]:=by simp [Act.eval]
   simp only [resolve,hcf,hargs,Deferred.ofValue,gC]
   rfl
  ·simp only [invoke];exact h.1 _ _
  ·have hcall:=h.2 _ ψ _ (vf++#[.func (.yield (B+1)) #[] #[]]++vc) hR2 (by simp [hl1,hl2];omega) (fun j x c hx hc=>by
    have hc':(vf.toList++[Value.func (.yield (B+1)) #[] #[]]++vc.toList)[j]? = some c:=by
     rw [← bR] at hc
     simpa using hc
    by_cases hj1:j<first.length
    ·rw [ai,aJ hj1] at hx
     rw [ai,aJ (by simp;omega)] at hc'
     exact(h1 j x c hx (by simpa using hc')).mono hx12
    ·by_cases hj2:j=first.length
     ·subst hj2
      simp at hx
      rw [hl1] at hc'
      simp at hc'
      subst hx;subst hc'
      exact .yld _ ⟨B+1,0,undef,0⟩ (by rw [← hlen];simp)
     ·rw [aM (by simp;omega)] at hx
      rw [aM (by simp;omega)] at hc'
      simp only [ab,ah,aj,fJ,← hl1] at hx hc'
      exact(h2 _ x c hx (by simpa using hc')).mono hx12)
   refine oD (r:=none) (hcall.mono ?_)
   rintro e w3 ⟨ι',ψ',out,S',e1,e2,e3,e4⟩
   have hxx:=hx12.trans e1
   have hE':gr ι' ψ' N (eO env DS (.dfr (.own S.length 0::ds))) { a with defers:=[{ target:=.collected B,args:=#[] }]++a.defers }:=by
    obtain⟨p',hp',hb',_⟩:=e1.pl S.length ⟨B,0,undef,0⟩ (by rw [← hlen];simp)
    refine⟨hE.size,hE.bound,⟨.own S.length 0::ds,.pointer (some ⟨B,0,none⟩)::dvs,by simp [eO],by simp [d2],fun j x v hx hv=>?_, ?_⟩,fun t=>?_⟩
    ·cases j with
     | zero =>
      simp at hx hv;subst hx;subst hv
      have:B=p'.blk:=hb'.symm
      rw [this]
      exact .own _ _ p' hp'
     | succ j=>exact(d3 j x v (by simpa using hx) (by simpa using hv)).mono hxx
    ·simp [d4,wI]
    ·simp only [eO]
     split
     ·next ht =>
      have:a.tmps.getD t undef=undef:=by
       rw [aK,dB (by rw [hE.size,ht];exact hE.bound)];rfl
      show VR _ _ _ (a.tmps.getD t undef)
      rw [this]
      refine .dfr _ (.pointer (some ⟨B,0,none⟩)::dvs) (by simp [d2]) fun j x v hx hv=>?_
      cases j with
      | zero =>
       simp at hx hv;subst hx;subst hv
       have:B=p'.blk:=hb'.symm
       rw [this]
       exact .own _ _ p' hp'
      | succ j=>exact(d3 j x v (by simpa using hx) (by simpa using hv)).mono hxx
     ·exact(hE.tmp t).mono hxx
   cases out with
   | ret v =>
    cases e<;>simp only [nh] at e3
    obtain⟨st,pend,N',tm,ps',asg',body',k1,k2,k3⟩:=e4
    obtain⟨p',hp',hb',_⟩:=e1.pl (S.length+1) ⟨B+1,0,undef,0⟩ (by rw [← hlen];simp)
    obtain⟨q0,⟨fn',vs',d',q1,q2,q3⟩,q4,q5⟩:=e2.blk _ _ p' k1 hp'
    have hbl:p'.blk=B+1:=hb'
    have hne:st≠.busy:=fun e=>by subst e;exact absurd k2 (by decide)
    have hend:=run_endLoop (P:=P) q1 hne
    rw [hbl] at hend
    refine⟨pend,_,hend, ?_⟩
    have hR3:di w0 ι' ψ' (S'.set (S.length+1) (.loop .exhausted pend N' tm ps' asg' body')) (w3.putObj p'.blk (.loop { state:=.exhausted,pending:=pend,fn:=fn',tmps:=vs',params:=ps',assign:=asg',body:=body',defers:=d' })) :=
     e2.putBlk k1 hp' rfl rfl q4 (by intro es e;cases e) ⟨q0,⟨fn',vs',d',eD (eG q1),q2,q3⟩,q4,q5⟩
    rw [hbl] at hR3
    cases pend with
    | none=>exact⟨ι',ψ',.normal,_,_,hxx.take n0,hR3,hE',trivial,k3⟩
    | some c=>exact wpIn_mono (k3 ι' ψ' _ _ hR3 hE') fun e a2 w2 hp=>hp.chain (hxx.take n0)
   | panic v =>
    cases e<;>simp only [nh] at e3
    exact⟨ι',ψ',.panic v,_,S',hxx.take n0,e2,hE',e3,e4⟩
end
end Go.Fen
namespace Go.Fen
open Go.RowKit
variable {P:Program}{w0 w w':World}{ι:List Pl}{ψ:eA}{S:List aH}
theorem ut {α β:Type} [BEq β] [LawfulBEq β] (f:α→β):∀ (l:List α) (j:Nat) (x:α),(l.map f).Nodup→l[j]? = some x→l.filter (fun y=>!(f y==f x))=l.eraseIdx j
 | [],j,x,_,h=>by simp at h
 | y::l,0,x,hn,h=>by
  simp at h;subst h
  rw [aG,pJ] at hn
  simp only [gP,beq_self_eq_true,cC,du,if_false,List.eraseIdx_cons_zero]
  rw [List.filter_eq_self]
  intro z hz
  have:f z≠f y:=fun e=>hn.1 (e▸dq hz)
  simpa using this
 | y::l,j+1,x,hn,h=>by
  rw [aG,pJ] at hn
  have hx:l[j]? = some x:=by simpa using h
  have hne:f y≠f x:=fun e=>hn.1 (e▸dq (aI hx))
  have hne':(f y==f x)=false:=by simpa using hne
  simp only [gP,hne',cE,if_true,yf]
  rw [ut f l j x hn.2 hx]
theorem sc {α:Type}:∀ (l:List α) (j:Nat) (x:α),l[j]? = some x→l.Perm (x::l.eraseIdx j)
 | [],j,x,h=>by simp at h
 | y::l,0,x,h=>by simp at h;subst h;simp
 | y::l,j+1,x,h=>by
  have:=sc l j x (by simpa using h)
  rw [yf]
  exact(this.cons y).trans (List.Perm.swap x y _)
theorem ur:∀ (l:List MapEntry) (m:MapEntry),(l.map (·.born)).Nodup→m∈l→l.find? (fun e=>e.born==m.born)=some m
 | [],m,_,h=>by simp at h
 | x::l,m,hn,h=>by
  rw [aG,pJ] at hn
  rcases dj.1 h with rfl | h
  ·simp
  ·have hne:x.born≠m.born:=fun e=>hn.1 (e▸dq h)
   rw [List.find?_cons_of_neg (by simpa using hne)]
   exact ur l m hn.2 h
theorem xS (n:Nat) (hn:0<n) (w:World):∃ j w1,j<n∧(w1=w∨w1=w.drew)∧(choose (.mapNext n)).run P w=.ok j w1:=by
 rw [run_choose_drew]
 by_cases h:n≤1
 ·exact⟨0,w,hn,.inl rfl,by simp [Question.forced,h]⟩
 ·exact⟨(w.tape w.drawn (.mapNext n)) % n,w.drew,fa _ hn,.inr rfl,by simp [Question.forced,h,Question.cut]⟩
section
variable {n0 N:Nat}{r:Option Nat}{Q:cR}{k:List TI}{env:dK}
theorem rf {all:Array Oper}{o:Oper}{l:List Oper}{it:Operand}{a:Nat}{cur:Option (AV × AV)}{rest:List (AV × AV)} (hg:cG all env o=some true) (ho:o.op=.next it false) (hit:bK w0 env it=.own a 0)
  (hS:S[a]? = some (.mit cur rest)) (hd:fg N o.dst=true)
  (h0:rest=[]→ba P w0 n0 N r (.it (.ops all l)::k) Q .normal (putA env o.dst (.tup [.bool false])) S)
  (h1:∀ e rest',rest.Perm (e::rest')→ba P w0 n0 N r (.it (.ops all l)::k) Q .normal (putA env o.dst (.tup [.bool true,e.1,e.2])) (S.set a (.mit (some e) rest'))) :
  ba P w0 n0 N r (.it (.ops all (o::l))::k) Q .normal env S:=by
 intro ι ψ w ac hR hE
 have hw:=dt hE hg
 refine ew hw (fun c hc=>by rw [hc] at ho;cases ho) ?_
 have hv:=hE.eval hR it
 rw [hit] at hv
 generalize hc:ac.eval it=c at hv
 have hres:(execOp ac.eval o).run P w=(do pure (.value (← kL c false o.type)):Sem Next).run P w:=by
  obtain⟨dst,op,ty,pos,after,guard⟩:=o
  simp only at ho
  subst ho
  simp [execOp,hc]
 rw [hres]
 cases hv with
 | own _ _ pl hpl =>
  obtain⟨q0,q1,q3,q4⟩:=hR.blk a _ pl hS hpl
  have over:(kL (.pointer (some ⟨pl.blk,0,none⟩)) false o.type).run P w=.ok (.tuple #[.bool false]) w→rest=[] →
    o.uponIn (FR r) 0 P ac (wpListIn (FR r) 0 P all (lw w0 n0 N ι ψ (ba P w0 n0 N r k Q)) l) (lw w0 n0 N ι ψ (ba P w0 n0 N r k Q)) ((do pure (.value (← kL (.pointer (some ⟨pl.blk,0,none⟩)) false o.type)):Sem Next).run P w):=by
   intro hn hr
   simp only [cS,hn,dd,gC]
   exact(h0 hr) ι ψ w _ hR (hE.putA (.tup _ _ rfl fun j x v hx hv=>by
    match j with
    | 0=>simp at hx hv;subst hx;subst hv;exact .bool _
    | j+1=>simp at hx) hd)
  rcases q1 with⟨k1,k2,k3⟩ | ⟨mb,ck,me,seen,lst,k1,k2,k4,k5,k6⟩
  ·exact over (by simp [kL,getObj,qt,k1]) k2
  ·obtain⟨hm,hok⟩:=hR.psim mb me ck k2
   have hb:=hok.1
   have hall:∀ e∈me.toList,e.born<ck:=hb
   let left:=me.filter fun e=>!seen.contains e.born
   have hleftL:left.toList=me.toList.filter (fun e=>!seen.contains e.born):=by simp [left]
   have hold:left.filter (fun e=>decide (e.born<ck))=left:=by
    apply HU.1
    rw [AK,List.filter_eq_self]
    intro e he
    rw [hleftL] at he
    simpa using hall e (qU.1 he).1
   have hnew:left.filter (fun e=>decide (e.born≥ck))=#[]:=by
    apply HU.1
    rw [AK,List.filter_eq_nil_iff]
    intro e he
    rw [hleftL] at he
    have:=hall e (qU.1 he).1
    simp;omega
   have hun:(!seen.isEmpty&&!me.isEmpty&&me.all (fun e=>decide (e.born≥ck)))=false:=by
    cases hme:me.isEmpty with
    | true=>simp
    | false =>
     have:me.all (fun e=>decide (e.born≥ck))=false:=by
      rw [tT] at hme
      rw [← Array.all_toList,List.all_eq_false]
      have hpos:0<me.size:=Ci.2 hme
      refine⟨me[0],by simp, ?_⟩
      have:=hall me[0] (by simp)
      simp;omega
     simp [this]
   have hlen:lst.length=left.size:=by rw [k5.1,← hleftL];simp
   have hrun:(kL (.pointer (some ⟨pl.blk,0,none⟩)) false o.type).run P w=(do
     match ((if left.isEmpty then #[none] else #[])++(left++#[]).map some)[← choose (.mapNext ((if left.isEmpty then #[none] else #[])++(left++#[]).map some).size)]? with
     | some (some e) =>
      setObj pl.blk (.mapIter (some mb) ck (seen.push e.born) ck)
      pure (.tuple #[.bool true,e.key,e.val])
     | some none=>pure (.tuple #[.bool false])
     | none=>stuck "Next: no such candidate" : Sem Value).run P w:=by
    have hg1:(getObj pl.blk).run P w=.ok (.mapIter (some mb) ck seen ck) w:=by simp [getObj,qt,k1]
    have hg2:(getObj mb).run P w=.ok (.map me ck) w:=by simp [getObj,qt,hm]
    simp only [kL,cS,hg1,hg2,dd,hun,du,if_false,gC]
    rw [show (me.filter fun e=>!seen.contains e.born)=left from rfl,hold,hnew]
    rfl
   by_cases hle:left=#[]
   ·have hl0:rest=[]:=by
     have:lst=[]:=cL (by rw [hlen,hle];rfl)
     rw [this] at k4;exact List.Perm.eq_nil k4.symm
    refine over ?_ hl0
    rw [hrun,hle]
    simp [run_choose_drew,Question.forced]
   ·have hpos:0<left.size:=Ci.2 hle
    have hemp:left.isEmpty=false:=by rw [tT];exact hle
    have hcand:((if left.isEmpty then #[none] else #[])++(left++#[]).map some:Array (Option MapEntry))=left.map some:=by simp [hemp]
    rw [hcand,Array.size_map] at hrun
    obtain⟨j,w1,hj,hw1,hch⟩:=xS (P:=P) left.size hpos w
    have hmj:left[j]? = some left[j]:=bN hj
    have hw1h:w1.heap=w.heap:=by rcases hw1 with rfl | rfl<;>rfl
    have hR1:di w0 ι ψ S w1:=by
     rcases hw1 with rfl | rfl
     ·exact hR
     ·exact hR.drew
    have k1':w1.heap[pl.blk]? = some (.mapIter (some mb) ck seen ck):=by rw [hw1h];exact k1
    have hset:(setObj pl.blk (.mapIter (some mb) ck (seen.push left[j].born) ck)).run P w1=.ok () (w1.putObj pl.blk (.mapIter (some mb) ck (seen.push left[j].born) ck)):=by simp [setObj,qt,k1',nN]
    have hrun2:(kL (.pointer (some ⟨pl.blk,0,none⟩)) false o.type).run P w=.ok (.tuple #[.bool true,left[j].key,left[j].val]) (w1.putObj pl.blk (.mapIter (some mb) ck (seen.push left[j].born) ck)):=by
     rw [hrun]
     simp only [cS,hch,dd,lb,hmj,dF,hset,gC]
    have hjl:j<lst.length:=by rw [hlen];exact hj
    have hlj:lst[j]? = some lst[j]:=aC hjl
    have hLj:(me.toList.filter fun e=>!seen.contains e.born)[j]? = some left[j]:=by rw [← hleftL];simpa using hmj
    have hv:=k5.2 j lst[j] left[j] hlj hLj
    have hmem:left[j]∈me.toList:=(qU.1 (aI hLj)).1
    have hnd:((me.toList.filter fun e=>!seen.contains e.born).map (·.born)).Nodup:=hok.2.sublist (List.filter_sublist.map _)
    have hR2:di w0 ι ψ (S.set a (.mit (some lst[j]) (lst.eraseIdx j))) (w1.putObj pl.blk (.mapIter (some mb) ck (seen.push left[j].born) ck)):=by
     refine hR1.putBlk hS hpl rfl rfl q3 (by intro es e;cases e) ⟨q0,.inr ⟨mb,ck,me,seen.push left[j].born,lst.eraseIdx j,eD (eG k1'),k2,.refl _, ?_, ?_⟩,q3,q4⟩
     ·have hf:me.toList.filter (fun e=>!(seen.push left[j].born).contains e.born)=(me.toList.filter fun e=>!seen.contains e.born).eraseIdx j:=by
       rw [← ut (·.born) _ j left[j] hnd hLj,List.filter_filter]
       congr 1
       funext e
       simp only [Array.contains_push,Bool.not_or,Bool.and_comm]
      rw [hf]
      refine⟨by rw [uL hjl,uL (by rw [← k5.1];exact hjl),k5.1],fun i e m he hm=>?_⟩
      rw [List.getElem?_eraseIdx] at he hm
      split at he
      ·next hij=>rw [if_pos hij] at hm;exact k5.2 i e m he hm
      ·next hij=>rw [if_neg hij] at hm;exact k5.2 (i+1) e m he hm
     ·intro e he
      cases he
      refine⟨left[j].born,left[j],by simp, ?_,hv.1,hv.2⟩
      rw [← Array.find?_toList]
      exact ur me.toList left[j] hok.2 hmem
    simp only [cS,hrun2,dd,gC]
    have hp:rest.Perm (lst[j]::lst.eraseIdx j):=k4.symm.trans (sc lst j _ hlj)
    exact(h1 lst[j] (lst.eraseIdx j) hp) ι ψ _ _ hR2 (hE.putA (.tup _ _ rfl fun i x v hx hv'=>by
     match i with
     | 0=>simp at hx hv';subst hx;subst hv';exact .bool _
     | 1=>simp at hx hv';subst hx;subst hv';exact hv.1
     | 2=>simp at hx hv';subst hx;subst hv';exact hv.2
     | i+3=>simp at hx) hd)
end
end Go.Fen
namespace Go.Fen
open Go.RowKit
variable {P:Program}{w0 w w':World}{ι:List Pl}{ψ:eA}{S:List aH}
section
variable {n0 N:Nat}{r:Option Nat}{Q:cR}{k:List TI}{env:dK}
theorem EX {all:Array Oper}{o:Oper}{l:List Oper}{fop x:Operand}{tys:Array TypeId}{f:FuncId}{v:AV} (hg:cG all env o=some true) (ho:o.op=.call ⟨.value fop,#[x],tys⟩) (hf:bK w0 env fop=.fn (.func f) [] [])
  (hext:∀ (c:Value) (w:World),(callFunc f #[c]).run P w=.ok (.value c) w) (hd:fg N o.dst=true) (hx:bK w0 env x=v)
  (h:ba P w0 n0 N r (.it (.ops all l)::k) Q .normal (putA env o.dst v) S):ba P w0 n0 N r (.it (.ops all (o::l))::k) Q .normal env S:=by
 subst hx
 intro ι ψ w a hR hE
 have hw:=dt hE hg
 refine ew hw (fun c hc=>by rw [hc] at ho;cases ho) ?_
 have hvf:=hE.eval hR fop
 rw [hf] at hvf
 generalize hcf:a.eval fop=cf at hvf
 cases hvf with
 | fn _ _ _ vf vc hl1 hl2 h1 h2 =>
  obtain rfl:vf=#[]:=re hl1.symm
  obtain rfl:vc=#[]:=re hl2.symm
  have hres:(execOp a.eval o).run P w=.ok (.value (a.eval x)) w:=by
   simp [execOp,ho,resolve,hcf,Deferred.ofValue,invoke,hext]
  rw [hres]
  exact h ι ψ w _ hR (hE.putA (hE.eval hR x) hd)
theorem ja {i:KI} (a:Nat){S1:List aH} (hS:dS S a=S1) (h:ba P w0 n0 N r (.it i::k) Q .normal env S1):ba P w0 n0 N r (.it i::k) Q .normal env S:=by
 subst hS
 intro ι ψ w ac hR hE
 obtain⟨ψ1,hle,hR1⟩:=ks hR a
 have hx:d_ ι ψ ι ψ1:=⟨(d_.refl ι ψ).pl,hle⟩
 exact KI.mono (h ι ψ1 w ac hR1 (hE.mono hx)) fun e a2 w2 hp=>hp.chain (hx.take n0)
end
def Ei:AV→Option Value
 | .int k n=>some (.int k n)
 | .bool b=>some (.bool b)
 | .str s=>some (.string ⟨s.toArray⟩)
 | _=>none
theorem nG {x:AV}{c v:Value} (hx:VR ι ψ x c) (h:Ei x=some v):c=v:=by
 cases x<;>simp [Ei] at h<;>subst h
 ·exact hx.int_inv
 ·exact hx.bool_inv
 ·exact hx.str_inv
theorem az.lib {f:FuncId}{args:List AV}{vs:List Value}{v:AV}{c:Value}{R:ed→List aH→Prop} (he:∀ (a:Array Value) (w:World),(callFunc f a).run P w=.ok (.enter f a) w) (ha:args.map Ei=vs.map some)
  (hv:Ei v=some c) (h:∀ w,Below w0.heap.size w0 w→Calls P f vs.toArray w fun e w'=>e=.returned c∧Below w.heap.size w w') (hR:R (.ret v) S):az P w0 f args S R:=by
 refine⟨he,fun ι ψ w cargs hRel hl hargs=>?_⟩
 have hlen:args.length=vs.length:=by simpa using congrArg lz ha
 have:cargs=vs.toArray:=by
  apply ma
  intro j
  by_cases hj:j<args.length
  ·have h1:args[j]? = some args[j]:=aC hj
   have h2:cargs[j]? = some cargs[j]:=bN (by omega)
   have h3:vs[j]? = some vs[j]:=aC (by omega)
   have h4:=hargs j _ _ h1 h2
   have h5:(args.map Ei)[j]? = (vs.map some)[j]?:=by rw [ha]
   simp only [aQ,h1,h3,dF,bM] at h5
   rw [h2]
   simp only [gJ,h3]
   rw [nG h4 h5]
  ·rw [dB (by omega),gJ,cT (by omega)]
 subst this
 refine(h w hRel.below).mono ?_
 rintro e w' ⟨rfl,hb⟩
 have hb0:Below w0.heap.size w w':=hb.mono hRel.n0
 refine⟨ι,ψ,.ret v,S,d_.refl _ _,hRel.grow hb0 (fun k hk=>hb.block k hk) (eA.le_refl _) (fun _ _ _ e=>.inl e) (fun _ _ _ e=>.inl e), ?_,hR⟩
 cases v<;>simp [Ei] at hv<;>subst hv
 ·exact .int _ _
 ·exact .bool _
 ·exact .str' _
def pW (P:Program) (w0:World) (all:Array Oper) (N:Nat):List Oper→dK→List aH→Option (dK × List aH)
 | [],env,S=>some (env,S)
 | o::l,env,S=>match cG all env o,en P S (bK w0 env) o.op,fg N o.dst with
  | some true,some (v,S'),true=>pW P w0 all N l (putA env o.dst v) S'
  | _,_,_=>none
def wi (P:Program) (w0:World) (g:FuncId) (args:List AV) (rv:AV) (S:List aH) (K:List aH→Prop):Prop :=
 ∃ (G:Func) (id:Nat) (o0:Oper) (l:List Oper) (rest:Code) (ty:TypeId) (d:Nat) (env1:dK) (S1:List aH),P.funcs[g]? = some G∧(G.name == "runtime.NumGoroutine")=false∧G.body=some (.seq (.region id (o0::l).toArray false) rest) ∧
  o0.op=.call ⟨.builtin .recover,#[],#[]⟩∧o0.guard=none∧o0.type=ty∧o0.dst=some d∧d<G.ntmps∧args.length≤G.ntmps∧G.ntmps≤DS∧G.results=#[] ∧
  pW P w0 (o0::l).toArray G.ntmps l (eO (df args) d rv) S=some (env1,S1) ∧
  ba P w0 S.length G.ntmps none [.it (.code rest)] (fun x env S'=>(x=.normal∨x=.ret)∧env DS=.dfr []∧gu S.length S S'∧K (S'.take S.length)) .normal env1 S1
theorem ve {all:Array Oper}{N:Nat}{QQ:Exit→Act→List Frame→World→Prop}{cs:List Frame}:∀ (l:List Oper) (j:Nat) (env env':dK) (S S':List aH) (ι:List Pl) (ψ:eA) (a:Act) (w:World),
  all.toList.drop j=l→pW P w0 all N l env S=some (env',S')→di w0 ι ψ S w→gr ι ψ N env a →
  (∀ ι' ψ' a' w',d_ ι ψ ι' ψ'→di w0 ι' ψ' S' w'→gr ι' ψ' N env' a'→QQ .normal a' cs w')→wpOpsSIn (FR none) 0 P all QQ (qT j l.length) a cs w:=by
 intro l
 induction l with
 | nil =>
  intro j env env' S S' ι ψ a w _ h hR hE hk
  simp [pW] at h
  obtain⟨rfl,rfl⟩:=h
  exact hk ι ψ a w (d_.refl _ _) hR hE
 | cons o l ih =>
  intro j env env' S S' ι ψ a w hd h hR hE hk
  have ho:all[j]? = some o:=by
   have:(all.toList.drop j)[0]? = some o:=by rw [hd];rfl
   simpa using this
  have hd':all.toList.drop (j+1)=l:=by
   have:=congrArg (List.drop 1) hd
   simpa [List.drop_drop,Nat.add_comm] using this
  simp only [pW] at h
  split at h
  ·next v S1 hg hs hds =>
   simp only [ah,wv,wpOpsSIn,ho]
   refine⟨fun _ _=>trivial, ?_⟩
   rw [if_pos (dt hE hg)]
   obtain⟨ι',ψ',w',nx,cv,h1,h2,h3,h4,h5⟩:=mI (P:=P) hR (fun x=>hE.eval hR x) hs
   rw [h1]
   have key:wpOpsSIn (FR none) 0 P all QQ (qT (j+1) l.length) (a.put o.dst cv) cs w' :=
    ih (j+1) _ env' S1 S' ι' ψ' _ w' hd' h h4 ((hE.mono h3).putA h5 hds) fun ι2 ψ2 a2 w2 e1 e2 e3=>hk ι2 ψ2 a2 w2 (h3.trans e1) e2 e3
   rcases h2 with rfl | ⟨rfl,rfl⟩
   ·exact key
   ·exact key
  ·cases h
inductive MR (ι:List Pl) (ψ:eA):AV→FrameMode→FrameMode→Prop
 | ret:MR ι ψ .inil .returning .returning
 | pan (rv:AV) (c:Value) (h:VR ι ψ rv c):MR ι ψ rv (.panicking [{ v:=c,recovered:=false }]) (.panicking [{ v:=c,recovered:=true }])
theorem zi {g:FuncId}{args:List AV}{rv:AV}{K:List aH→Prop} (h:wi P w0 g args rv S K) (hR:di w0 ι ψ S w){u u':FrameMode} (hm:MR ι ψ rv u u'){cargs:Array Value} (hl:args.length=cargs.size)
  (hv:∀ (j:Nat) (x:AV) (c:Value),args[j]? = some x→cargs[j]? = some c→VR ι ψ x c) :
  (∀ (a:Array Value) (w:World),(callFunc g a).run P w=.ok (.enter g a) w) ∧
  CallsDIn (FR none) 0 P g cargs u w fun e u2 w'=>e=.returned (.tuple #[])∧u2=u'∧∃ ι' ψ' S',d_ ι ψ ι' ψ'∧di w0 ι' ψ' S' w'∧K S':=by
 obtain⟨G,id,o0,l,rest,ty,d,env1,S1,h1,h2,h3,h4,h5,h6,h7,h8,h9,h10,h11,h12,h13⟩:=h
 refine⟨fun a w=>by simp only [callFunc,cS,run_program,dd,h1,h2,h3];rfl, ?_⟩
 refine callsDIn_of_wpSIn h1 h3 trivial fun c₀ cs hu=>?_
 have hE:gr ι ψ G.ntmps (df args) { tmps:=cargs++cr (G.ntmps - cargs.size) undef,defers:=[] }:=by
  refine⟨by simp;omega,h10,⟨[],[],by simp [df],rfl,by simp,rfl⟩,fun t=>?_⟩
  simp only [df]
  split
  ·next ht =>
   have:(cargs++cr (G.ntmps - cargs.size) undef).getD t undef=undef:=by
    rw [aK,dB (by simp;omega)];rfl
   rw [this]
   exact .dfr [] [] rfl (by simp)
  ·by_cases ht:t<args.length
   ·have e1:args[t]? = some args[t]:=aC ht
    have ht':t<cargs.size:=by omega
    have e2:cargs[t]? = some cargs[t]:=bN ht'
    rw [e1,aK,lC ht',e2]
    exact hv t _ _ e1 e2
   ·rw [cT (by omega)]
    exact .junk _
 have hfin:∀ (cs':List Frame) (rc:Value),VR ι ψ rv rc→cs'={ c₀ with mode:=u' }::cs →
   wpOpsSIn (FR none) 0 P (o0::l).toArray (Exit.thenS (rest.wpSIn (FR none) 0 P (bodyPostS P G c₀ cs fun e u2 w'=>e=.returned (.tuple #[])∧u2=u'∧∃ ι' ψ' S',d_ ι ψ ι' ψ'∧di w0 ι' ψ' S' w'∧K S')) (bodyPostS P G c₀ cs fun e u2 w'=>e=.returned (.tuple #[])∧u2=u'∧∃ ι' ψ' S',d_ ι ψ ι' ψ'∧di w0 ι' ψ' S' w'∧K S'))
    (qT 1 l.length) (Act.put { tmps:=cargs++cr (G.ntmps - cargs.size) undef,defers:=[] } (some d) rc) cs' w:=by
  intro cs' rc hrc hcs
  subst hcs
  refine ve l 1 _ env1 S S1 ι ψ _ w (by simp) h12 hR (hE.put hrc h8) fun ι1 ψ1 a1 w1 e1 e2 e3=>?_
  refine wpSIn_of_wpIn rfl (wpIn_mono (h13 ι1 ψ1 w1 a1 e2 e3) fun e a2 w2 hp=>?_)
  obtain⟨ι2,ψ2,x,env2,S2,f1,f2,f3,f4,f5,f6,f7,f8⟩:=hp
  obtain⟨ds,dvs,d1,d2,d3,d4⟩:=f3.defers
  rw [f6] at d1;cases d1
  obtain rfl:dvs=[]:=ib.1 d2.symm
  have hx1:d_ (ι1.take S.length) ψ1 ι2 ψ2:=f1
  have hx:d_ ι ψ ι2 ψ2:=by
   refine⟨fun i p hp=>?_,eA.le_trans e1.psi hx1.psi⟩
   have hi:i<S.length:=by rw [← hR.len];exact(aw.1 hp).1
   obtain⟨p1,k1,kb1,kg1,ke1⟩:=e1.pl i p hp
   obtain⟨p2,k2,kb2,kg2,ke2⟩:=hx1.pl i p1 (by rw [bu,if_pos hi];exact k1)
   refine⟨p2,k2,kb2.trans kb1,fb kg1 kg2,fun e=>?_⟩
   have:p.gen=p1.gen:=by omega
   have:p1.gen=p2.gen:=by omega
   rw [ke2 (by omega),ke1 (by omega)]
  obtain⟨ψ3,k1,k2,k3⟩:=f2.leave S.length (fun j B hj hB=>by
   have:B.ltB S.length=true:=(f7 j B hj hB).elim (fun e=>hR.ltB e) (fun e=>e)
   cases B<;>first | exact this | (exact sk this) | trivial)
  have hfinal:∃ ι' ψ' S',d_ ι ψ ι' ψ'∧di w0 ι' ψ' S' w2∧K S':=by
   refine⟨ι2.take S.length,ψ3,_,⟨fun i p hp=>?_,eA.le_trans hx.psi k1⟩,k3,f8⟩
   obtain⟨p',e1,e2⟩:=hx.pl i p hp
   have:i<S.length:=by rw [← hR.len];exact(aw.1 hp).1
   exact⟨p',by rw [bu,if_pos this];exact e1,e2⟩
  have hres:(results G a2.tmps).run P w2=.ok (.tuple #[]) w2:=by
   simp [results,h11]
  have hdef:a2.defers=[]:=by rw [d4];rfl
  rcases f5 with rfl | rfl
  ·cases e<;>simp only [XR] at f4
   exact⟨hdef,u',rfl,_,hres,rfl,rfl,hfinal⟩
  ·cases e<;>simp only [XR] at f4
   exact⟨hdef,u',rfl,_,hres,rfl,rfl,hfinal⟩
 refine wpSIn_seq (wpSIn_region ?_)
 rw [show bJ (o0::l).toArray.size=0::qT 1 l.length by
  rw [Iv];simp [wv]]
 simp only [wpOpsSIn]
 rw [show ((o0::l).toArray)[0]? = some o0 by simp]
 refine⟨fun _ _=>trivial, ?_⟩
 rw [if_pos (by simp [jO,h5])]
 have hex:∀ σ:Operand→Value,(execOp σ o0).run P w=.ok .recover w:=by
  intro σ
  simp [execOp,h4,resolve,invoke,builtin]
 rw [hex,h7]
 simp only [recoverD,hu]
 cases hm with
 | ret=>exact hfin _ _ .inil (by rw [← hu])
 | pan _ c hc=>exact hfin _ _ hc rfl
def uG (P:Program) (F:Func) (S0:List aH) (env:dK) (R:ed→List aH→Prop) (S:List aH):Prop :=
 ∃ vs,gW P env S F.results.toList=some vs∧gu S0.length S0 S∧(conv S (fun a=>decide (S0.length≤a)) 4 (dy vs)).lt S0.length=true∧R (.ret (conv S (fun a=>decide (S0.length≤a)) 4 (dy vs))) (S.take S0.length)
def oK (P:Program) (w0:World) (F:Func) (S0:List aH) (R:ed→List aH→Prop):cR
 | .normal,env,S | .ret,env,S=>∃ g first cap,env DS=.dfr [.fn (.func g) first cap]∧wi P w0 g (first++cap) .inil S (uG P F S0 env R)
 | .panic v,env,S=>∃ g first cap,env DS=.dfr [.fn (.func g) first cap]∧wi P w0 g (first++cap) v S (uG P F S0 env R)
 | _,_,_=>False
theorem Ea {f:FuncId}{F:Func}{c:Code}{args:List AV}{R:ed→List aH→Prop} (hf:P.funcs[f]? = some F) (hb:F.body=some c) (hname:(F.name == "runtime.NumGoroutine")=false) (hargs:args.length≤F.ntmps) (hbd:F.ntmps≤DS)
  (h0:bP S→ba P w0 S.length F.ntmps none [.it (.code c)] (oK P w0 F S R) .normal (df args) S):az P w0 f args S R:=by
 refine⟨fun a w=>by simp only [callFunc,cS,run_program,dd,hf,hname,hb];rfl,fun ι ψ w cargs hR hl hv=>?_⟩
 have h:=h0 fun j B hB=>hR.ltB hB
 refine(callsIn_wide (n:=0)).1 ?_
 refine callsIn_of_wp_marks (F:=Fence.wide) hf hb trivial ?_
 have hE:gr ι ψ F.ntmps (df args) { tmps:=cargs++cr (F.ntmps - cargs.size) undef,defers:=[] }:=by
  refine⟨by simp;omega,hbd,⟨[],[],by simp [df],rfl,by simp,rfl⟩,fun t=>?_⟩
  simp only [df]
  split
  ·next ht =>
   have:(cargs++cr (F.ntmps - cargs.size) undef).getD t undef=undef:=by
    rw [aK,dB (by simp;omega)];rfl
   rw [this]
   exact .dfr [] [] rfl (by simp)
  ·by_cases ht:t<args.length
   ·have e1:args[t]? = some args[t]:=aC ht
    have ht':t<cargs.size:=by omega
    have e2:cargs[t]? = some cargs[t]:=bN ht'
    rw [e1,aK,lC ht',e2]
    exact hv t _ _ e1 e2
   ·rw [cT (by omega)]
    exact .junk _
 refine wpIn_mono (h ι ψ w _ hR hE) fun e a' w' hp=>?_
 obtain⟨ι',ψ',x,env,S',h1,h2,h3,h4,h5⟩:=hp
 have hext:d_ ι ψ ι' ψ':=by rw [← hR.len,bQ] at h1;exact h1
 obtain⟨ds,dvs,d1,d2,d3,d4⟩:=h3.defers
 have go:∀ (u u':FrameMode) (rv:AV) (g:FuncId) (first cap:List AV),u≠.run→MR ι' ψ' rv u u'→settle u'=.returning→env DS=.dfr [.fn (.func g) first cap]→wi P w0 g (first++cap) rv S' (uG P F S env R) →
   LeavesInM Fence.wide 0 P F a'.tmps (fun e w'=>∃ ι' ψ' out S',d_ ι ψ ι' ψ'∧di w0 ι' ψ' S' w'∧nh ι' ψ' out e∧R out S') a'.defers u w':=by
  intro u u' rv g first cap hu hm hset hds hrun
  rw [hds] at d1;cases d1
  obtain⟨dv,rfl⟩:∃ dv,dvs=[dv]:=by
   match dvs,d2 with
   | [dv],_=>exact⟨dv,rfl⟩
  have hdv:=d3 0 _ dv rfl rfl
  cases hdv with
  | fn _ _ _ vf vc hl1 hl2 k1 k2 =>
   rw [d4]
   simp only [aG,aL,wI,LeavesInM]
   obtain⟨q1,q2⟩:=zi (P:=P) hrun h2 hm (cargs:=vf++vc) (by simp [hl1,hl2]) (fun j x c hx hc=>by
    have hc':(vf.toList++vc.toList)[j]? = some c:=by
     rw [← bR] at hc
     simpa using hc
    by_cases hj:j<first.length
    ·rw [aJ hj] at hx
     rw [aJ (by simp;omega)] at hc'
     exact k1 j x c hx (by simpa using hc')
    ·rw [aM (by omega)] at hx
     rw [aM (by simp;omega)] at hc'
     simp only [fJ,← hl1] at hc'
     exact k2 _ x c hx (by simpa using hc'))
   refine⟨hu,.inr ⟨fun h=>by simp [Fence.wide] at h,.func g,vc,g,vf++vc,rfl,by simp only [invoke];exact q1 _ _,fun _ _=>trivial, ?_⟩⟩
   refine CallsDIn.mono q2 ?_
   rintro e2 u2 w2 ⟨rfl,rfl,ι2,ψ2,S2,e1,e2,vs,r1,r2,r3,r4⟩
   show LeavesInM _ _ _ _ _ _ [] (settle u2) w2
   rw [hset]
   have hE2:=h3.mono e1
   obtain⟨cs,q1,q2,q3⟩:=mM (P:=P) e2 hE2 _ vs r1
   have hrun:(results F a'.tmps).run P w2=.ok (if h:cs.toArray.size=1 then cs.toArray[0] else .tuple cs.toArray) w2:=by
    unfold results
    rw [yo]
    simp only [cS,Sem.run_map]
    erw [q1]
    rfl
   have hv:VR ι2 ψ2 (dy vs) (if h:cs.toArray.size=1 then cs.toArray[0] else .tuple cs.toArray):=by
    match vs,cs,q2,q3 with
    | [],[],_,_=>exact .tup _ _ rfl (by simp)
    | [v],[c],_,q3=>simpa [dy] using q3 0 v c rfl rfl
    | v1::v2::vs,c1::c2::cs,q2,q3 =>
     simp only [dy,fj,ah]
     rw [dif_neg (by omega)]
     exact .tup _ _ (by simpa using q2) (fun j x c hx hc=>q3 j x c hx (by simpa using hc))
    | [],_::_,q2,_=>simp at q2
    | [_],[],q2,_=>simp at q2
    | [_],_::_::_,q2,_=>simp at q2
    | _::_::_,[],q2,_=>simp at q2
    | _::_::_,[_],q2,_=>simp at q2
   obtain⟨ψ3,k1,k2,k3⟩:=e2.leave S.length (fun j B hj hB=>by
    have:B.ltB S.length=true:=(r2 j B hj hB).elim (fun e=>hR.ltB e) id
    cases B<;>first | exact this | (exact sk this) | trivial)
   have rn:=hext.trans e1
   refine⟨_,hrun,ι2.take S.length,ψ3,.ret _,_,⟨fun i p hp=>?_,eA.le_trans rn.psi k1⟩,k3,(jm e2 k1 k2 4 _ _ hv).take r3,r4⟩
   obtain⟨p',e1,e2⟩:=rn.pl i p hp
   have:i<S.length:=by rw [← hR.len];exact(aw.1 hp).1
   exact⟨p',by rw [bu,if_pos this];exact e1,e2⟩
 cases x with
 | normal =>
  cases e<;>simp only [XR] at h4
  obtain⟨g,first,cap,hds,hrun⟩:=h5
  exact go .returning .returning .inil g first cap (by simp) .ret rfl hds hrun
 | ret =>
  cases e<;>simp only [XR] at h4
  obtain⟨g,first,cap,hds,hrun⟩:=h5
  exact go .returning .returning .inil g first cap (by simp) .ret rfl hds hrun
 | exit id=>exact h5.elim
 | goto l=>exact h5.elim
 | panic v =>
  cases e<;>simp only [XR] at h4
  obtain⟨c,rfl,hv⟩:=h4
  obtain⟨g,first,cap,hds,hrun⟩:=h5
  exact go (.panicking [{ v:=c,recovered:=false }]) (.panicking [{ v:=c,recovered:=true }]) v g first cap (by simp) (.pan v c hv) rfl hds hrun
section
variable {n0 N:Nat}{Q:cR}{k:List TI}{env:dK}
theorem rg {all:Array Oper}{o:Oper}{l:List Oper}{fop:Operand}{tys:Array TypeId}{g:FuncId}{first cap ds:List AV} (hg:cG all env o=some true) (ho:o.op=.defer ⟨.value fop,#[],tys⟩)
  (hf:bK w0 env fop=.fn (.func g) first cap) (hds:env DS=.dfr ds) (hd:fg N o.dst=true)
  (h:ba P w0 n0 N none (.it (.ops all l)::k) Q .normal (putA (eO env DS (.dfr (.fn (.func g) first cap::ds))) o.dst (.tup [])) S):ba P w0 n0 N none (.it (.ops all (o::l))::k) Q .normal env S:=by
 intro ι ψ w a hR hE
 have hw:=dt hE hg
 obtain⟨ds',dvs,d1,d2,d3,d4⟩:=hE.defers
 rw [hds] at d1;cases d1
 have hvf:=hE.eval hR fop
 rw [hf] at hvf
 generalize hcf:a.eval fop=cf at hvf
 have hvf0:=hvf
 cases hvf with
 | fn _ _ _ vf vc hl1 hl2 h1 h2 =>
  have hres:(o.semAt (FR none).round a.eval).run P w=.ok (.defer { target:=.fn (.func g) vc,args:=vf }) w:=by
   have hr:(FR none).round=none:=rfl
   rw [hr,Oper.semAt_none]
   simp [execOp,ho,resolve,hcf,Deferred.ofValue]
  show wpListIn (FR none) 0 P all _ (o::l) a w
  unfold wpListIn
  rw [if_pos hw]
  refine⟨fun _ _=>trivial, ?_⟩
  show Oper.uponIn _ _ _ _ _ _ _ _
  rw [hres]
  have hdf:∀ v,v=AV.dfr (.fn (.func g) first cap::ds)→VR ι ψ v undef:=by
   rintro v rfl
   refine .dfr _ (.func (.func g) vf vc::dvs) (by simp [d2]) fun j x v hx hv=>?_
   cases j with
   | zero=>simp at hx hv;subst hx;subst hv;exact hvf0
   | succ j=>exact d3 j x v (by simpa using hx) (by simpa using hv)
  have hE':gr ι ψ N (eO env DS (.dfr (.fn (.func g) first cap::ds))) { a with defers:={ target:=.fn (.func g) vc,args:=vf }::a.defers }:=by
   refine⟨hE.size,hE.bound,⟨.fn (.func g) first cap::ds,.func (.func g) vf vc::dvs,by simp [eO],by simp [d2],fun j x v hx hv=>?_,by simp [d4,wI]⟩,fun t=>?_⟩
   ·cases j with
    | zero=>simp at hx hv;subst hx;subst hv;exact hvf0
    | succ j=>exact d3 j x v (by simpa using hx) (by simpa using hv)
   ·simp only [eO]
    split
    ·next ht =>
     have:a.tmps.getD t undef=undef:=by
      rw [aK,dB (by rw [hE.size,ht];exact hE.bound)];rfl
     show VR _ _ _ (a.tmps.getD t undef)
     rw [this]
     exact hdf _ rfl
    ·exact hE.tmp t
  exact h ι ψ w _ hR (hE'.putA (.tup _ _ rfl (by simp)) hd)
end
end Go.Fen
