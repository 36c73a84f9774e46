/- YthdbijpefkapnaaGreatDoorOfCore0: a part of the proof. -/
import Derived.WalkKit
import Derived.RangeFuncOwn
import Derived.RangeFuncLeaves
import Derived.WalkSpells
import Derived.WalkLawsBesides
import Derived.Laws.BytesString
import Derived.Lib.Builder
import Derived.MapKept
set_option linter.all false
set_option linter.unusedVariables false
set_option linter.unusedSimpArgs false
open Array renaming getD → lF, getD_eq_getD_getElem? → aC, getElem?_eq_some_iff → bF, getElem?_setIfInBounds_ne → ka, getElem?_toList → bu, toList_inj → IV
open BitVec renaming ofInt → ar
open Bool renaming and_eq_true → aq, false_eq_true → aZ, not_eq_true' → ay, or_eq_true → ef, true_and → bP
open ByteArray renaming empty → jJ, emptyWithCapacity → eX
open Go.ByteArray renaming size_mk' → nq
open Go.Instr renaming checkKey → lB, fieldAt → Jo, findAsking → gq, findKey → gQ, findNow → Jn, index → Aa, indexAt → oN, keyThatStays → IR, loadAt → np, lookup → qM, sameBits → nT, slice → z_, sliceAt → gj, sliceBound → IQ, sliceBounds → eu, sureAddr → eF, typeAssert → l9
open Go.IntKind renaming u8 → a6
open Go.MapKept renaming run_getObj_map → cz
open Go.Op renaming bytesLess → rM, equal → mB, equalIn → gm, intBits → Ft
open Go.Result renaming andThen → IK, andThen_ok → cA
open Go.RowKit.Below renaming refl → Cx
open Go.Sem renaming run → qH, run_bind → co
open Go.Value renaming int → eK, oneCell' → zX, ownBlock → cV
open Go.Value.slice renaming injEq → g8
open Go.World renaming block_lt_of_cell? → jy, cell? → qG, cell?_of_block → Cn
open List renaming all_eq_true → aD, append_assoc → aP, cons_append → fQ, eq_nil_of_length_eq_zero → bW, find?_eq_none → kl, foldl_cons → g9, getElem?_append_left → au, getElem?_append_right → aA, getElem?_drop → cZ, getElem?_eq_getElem → ap, getElem?_eq_some_iff → af, getElem?_map → aJ, getElem?_of_mem → aV, getElem?_set_ne → be, getElem?_take → bc, getElem?_toArray → gA, getElem_mem → jL, length → jI, length_append → ah, length_cons → aB, length_drop → CE, length_map → bi, length_nil → aI, length_take → pU, map → bn, mem_cons → bD, mem_cons_of_mem → iv, mem_cons_self → dG, mem_of_find?_eq_some → oJ, mem_of_getElem? → ax, nil_append → gu, range → bh, take → rg
open List.cons renaming injEq → mz
open Nat renaming add_assoc → qI, add_mul → eH, add_zero → l8, le_refl → ba, le_trans → fc, mod_eq_of_lt → pS, succ_mul → jS, zero_add → bG, zero_le → bf
open Option renaming map_eq_some_iff → aL, map_some → dp
open Option.some renaming inj → bg, injEq → bl
open Prod renaming fst → cP, snd → tD
open UInt8 renaming ofNat → az
namespace Go.Fen
open Go.RowKit
theorem ω{p:Prop}(h:p:=by omega):p:=h
theorem δ{p:Prop}(h:p:=by decide):p:=h
theorem χ{p:Prop}(h:p:=by simp):p:=h
theorem κ{p:Prop}(h:p:=by simp;omega):p:=h
theorem τ{p:Prop}[Decidable p](h:p:=by omega):decide p=true:=decide_eq_true h
theorem τ2{p:Prop}[Decidable p](h:¬p:=by omega):decide p=false:=decide_eq_false h
theorem ν{a b:Int}(h:¬a=b:=by omega):(a==b)=false:=beq_eq_false_iff_ne.2 h
inductive AV where
 | int (k:IntKind) (n:Int)
 | bool (b:Bool)
 | str (s:List UInt8)
 | nilp
 | own (a off:Nat)
 | oel (a g i off:Nat)
 | pro (cs:List AV)
 | snil
 | sval (full:Bool) (els:List AV)
 | sown (a g n:Nat)
 | mnil
 | mown (a:Nat)
 | mval (es:List (AV × AV))
 | fn (f:Fn) (first cap:List AV)
 | fnil
 | yld (a:Nat)
 | ifc (t:TypeId) (v:AV)
 | inil
 | agg (cs:List AV)
 | tup (vs:List AV)
 | dfr (l:List AV)
 | val (v:Value)
 | junk
 deriving Inhabited
def AV.cells:AV→List AV
 | .agg cs=>cs
 | v=>[v]
def AV.leaf:AV→Bool
 | .agg _ | .tup _ | .junk | .dfr _=>false
 | _=>true
structure Pl where
 blk:Nat
 gen:Nat
 sv:Value
 sz:Nat
structure eo where
 c:Nat→Nat→Option Value
 m:Nat→Option (Array MapEntry × Nat)
def eo.le(p q:eo):Prop:=(∀ b o v,p.c b o=some v→q.c b o=some v)∧(∀ b e,p.m b=some e→q.m b=some e)
inductive VR (ι:List Pl) (ψ:eo):AV→Value→Prop
 | int (k n):VR ι ψ (.int k n) (.int k n)
 | bool (b):VR ι ψ (.bool b) (.bool b)
 | str (s:List UInt8) (b:ByteArray) (h:b.data.toList=s):VR ι ψ (.str s) (.string b)
 | nilp:VR ι ψ .nilp (.pointer none)
 | own (a off:Nat) (pl:Pl) (h:ι[a]? = some pl):VR ι ψ (.own a off) (.pointer (some ⟨pl.blk,off,none⟩))
 | oel (a g i off:Nat) (ad:Addr) (pl:Pl) (h:ι[a]? = some pl) (hg:g≤pl.gen) (hs:g=pl.gen→∃ b,pl.sv.ownBlock=some b∧ad=⟨b,i * pl.sz+off,none⟩):VR ι ψ (.oel a g i off) (.pointer (some ad))
 | pro (cs : List AV) (b o : Nat) (cv : Nat → Value) (h1 : ∀ j x, cs[j]? = some x → x.leaf = true ∧ ψ.c b (o + j) = some (cv j)) (h2 : ∀ j x, cs[j]? = some x → VR ι ψ x (cv j)) :
   VR ι ψ (.pro cs) (.pointer (some ⟨b,o,none⟩))
 | snil:VR ι ψ .snil (.slice none 0 0)
 | svnil (full:Bool):VR ι ψ (.sval full []) (.slice none 0 0)
 | sve (full:Bool) (a:Addr) (cap:Nat) (hf:full=true→cap=0):VR ι ψ (.sval full []) (.slice (some a) 0 cap)
 | sval (sz : Nat) (full : Bool) (els : List AV) (b o cap : Nat) (cv : Nat → Nat → Value) (hsz : ∀ (i : Nat) (e : AV), els[i]? = some e → e.cells.length = sz) (hcap : els.length ≤ cap) (hf : full = true → cap = els.length)
   (h1:∀ (i:Nat) (e:AV) (j:Nat) (x:AV),els[i]? = some e→e.cells[j]? = some x→x.leaf=true∧ψ.c b (o+i * sz+j)=some (cv i j))
   (h2:∀ (i:Nat) (e:AV) (j:Nat) (x:AV),els[i]? = some e→e.cells[j]? = some x→VR ι ψ x (cv i j)):VR ι ψ (.sval full els) (.slice (some ⟨b,o,none⟩) els.length cap)
 | sown (a g n:Nat) (ad:Option Addr) (cap:Nat) (pl:Pl) (h:ι[a]? = some pl) (hg:g≤pl.gen) (hs:g=pl.gen→Value.slice ad n cap=pl.sv):VR ι ψ (.sown a g n) (.slice ad n cap)
 | mnil:VR ι ψ .mnil (.map none)
 | mown (a:Nat) (pl:Pl) (h:ι[a]? = some pl):VR ι ψ (.mown a) (.map (some pl.blk))
 | mval (es l : List (AV × AV)) (b ck : Nat) (me : Array MapEntry) (hb : ψ.m b = some (me, ck)) (hp : l.Perm es) (hl : l.length = me.size) (hn : (es.map cP).Nodup)
   (h1:∀ (i:Nat) (e:AV × AV) (m:MapEntry),l[i]? = some e→me[i]? = some m→VR ι ψ e.1 m.key) (h2:∀ (i:Nat) (e:AV × AV) (m:MapEntry),l[i]? = some e→me[i]? = some m→VR ι ψ e.2 m.val):VR ι ψ (.mval es) (.map (some b))
 | fn (f : Fn) (first cap : List AV) (vf vc : Array Value) (hl1 : first.length = vf.size) (hl2 : cap.length = vc.size)
   (h1:∀ (j:Nat) (x:AV) (v:Value),first[j]? = some x→vf[j]? = some v→VR ι ψ x v) (h2:∀ (j:Nat) (x:AV) (v:Value),cap[j]? = some x→vc[j]? = some v→VR ι ψ x v):VR ι ψ (.fn f first cap) (.func f vf vc)
 | fnil:VR ι ψ .fnil .nilFunc
 | yld (a:Nat) (pl:Pl) (h:ι[a]? = some pl):VR ι ψ (.yld a) (.func (.yield pl.blk) #[] #[])
 | ifc (t:TypeId) (x:AV) (v:Value) (h:VR ι ψ x v):VR ι ψ (.ifc t x) (.iface t v)
 | inil:VR ι ψ .inil .nilIface
 | agg (cs:List AV) (vs:Array Value) (hl:cs.length=vs.size) (h:∀ (j:Nat) (x:AV) (v:Value),cs[j]? = some x→vs[j]? = some v→VR ι ψ x v):VR ι ψ (.agg cs) (.agg vs)
 | tup (cs:List AV) (vs:Array Value) (hl:cs.length=vs.size) (h:∀ (j:Nat) (x:AV) (v:Value),cs[j]? = some x→vs[j]? = some v→VR ι ψ x v):VR ι ψ (.tup cs) (.tuple vs)
 | dfr (cs:List AV) (vs:List Value) (hl:cs.length=vs.length) (h:∀ (j:Nat) (x:AV) (v:Value),cs[j]? = some x→vs[j]? = some v→VR ι ψ x v):VR ι ψ (.dfr cs) undef
 | val (v:Value) (h:v.oneCell'=true):VR ι ψ (.val v) v
 | junk (v:Value):VR ι ψ .junk v
structure dW (ι:List Pl) (ψ:eo) (ι':List Pl) (ψ':eo):Prop where
 pl:∀ (i:Nat) (p:Pl),ι[i]? = some p→∃ p':Pl,ι'[i]? = some p'∧p'.blk=p.blk∧p.gen≤p'.gen∧(p.gen=p'.gen→p'=p)
 psi:ψ.le ψ'
theorem eo.le_refl(p:eo):p.le p:=⟨fun _ _ _ h=>h,fun _ _ h=>h⟩
theorem eo.le_trans{p q r:eo}(h:p.le q)(k:q.le r):p.le r:=⟨fun b o v e=>k.1 _ _ _ (h.1 b o v e),fun b e' e=>k.2 _ _ (h.2 b e' e)⟩
theorem dW.refl(ι:List Pl)(ψ:eo):dW ι ψ ι ψ:=⟨fun _ p h=>⟨p,h,rfl,ba _,fun _=>rfl⟩,eo.le_refl _⟩
theorem dW.trans{ι ι' ι'':List Pl}{ψ ψ' ψ'':eo}(h:dW ι ψ ι' ψ')(k:dW ι' ψ' ι'' ψ''):dW ι ψ ι'' ψ'':=by
 refine⟨fun i p hp=>?_,eo.le_trans h.psi k.psi⟩
 obtain⟨p1,h1,hb1,hg1,he1⟩:=h.pl i p hp
 obtain⟨p2,h2,hb2,hg2,he2⟩:=k.pl i p1 h1
 refine⟨p2,h2,hb2.trans hb1,fc hg1 hg2,fun e=>?_⟩
 have e1:p.gen=p1.gen:=ω
 have e2:p1.gen=p2.gen:=ω
 rw [he2 e2,he1 e1]
theorem VR.mono{ι ι':List Pl}{ψ ψ':eo}(hx:dW ι ψ ι' ψ'){x:AV}{v:Value}(h:VR ι ψ x v):VR ι' ψ' x v:=by
 induction h with
 | int k n=>exact .int k n
 | bool b=>exact .bool b
 | str s b h=>exact .str s b h
 | nilp=>exact .nilp
 | own a off pl h =>
  obtain⟨p',h',hb,_⟩:=hx.pl a pl h
  rw [← hb];exact .own a off p' h'
 | oel a g i off ad pl h hg hs =>
  obtain⟨p',h',hb,hg',he⟩:=hx.pl a pl h
  refine .oel a g i off ad p' h' (fc hg hg') fun e=>?_
  have:pl.gen=p'.gen:=ω
  rw [he this];exact hs ω
 | pro cs b o cv h1 h2 ih=>exact .pro cs b o cv (fun j x e=>⟨(h1 j x e).1,hx.psi.1 _ _ _ (h1 j x e).2⟩) ih
 | snil=>exact .snil
 | svnil full=>exact .svnil full
 | sve full a cap hf=>exact .sve full a cap hf
 | sval sz full els b o cap cv hsz hcap hf h1 h2 ih=>exact .sval sz full els b o cap cv hsz hcap hf (fun i e j x he hj=>⟨(h1 i e j x he hj).1,hx.psi.1 _ _ _ (h1 i e j x he hj).2⟩) ih
 | sown a g n ad cap pl h hg hs =>
  obtain⟨p',h',hb,hg',he⟩:=hx.pl a pl h
  refine .sown a g n ad cap p' h' (fc hg hg') fun e=>?_
  have:pl.gen=p'.gen:=ω
  rw [he this];exact hs ω
 | mnil=>exact .mnil
 | mown a pl h =>
  obtain⟨p',h',hb,_⟩:=hx.pl a pl h
  rw [← hb];exact .mown a p' h'
 | mval es l b ck me hb hp hl hn h1 h2 ih1 ih2=>exact .mval es l b ck me (hx.psi.2 _ _ hb) hp hl hn ih1 ih2
 | fn f first cap vf vc hl1 hl2 h1 h2 ih1 ih2=>exact .fn f first cap vf vc hl1 hl2 ih1 ih2
 | fnil=>exact .fnil
 | yld a pl h =>
  obtain⟨p',h',hb,_⟩:=hx.pl a pl h
  rw [← hb];exact .yld a p' h'
 | ifc t x v h ih=>exact .ifc t x v ih
 | inil=>exact .inil
 | agg cs vs hl h ih=>exact .agg cs vs hl ih
 | tup cs vs hl h ih=>exact .tup cs vs hl ih
 | dfr cs vs hl h ih=>exact .dfr cs vs hl ih
 | val v h=>exact .val v h
 | junk v=>exact .junk v
inductive aH where
 | cells (cs:List AV) (ty:Option TypeId:=none)
 | arr (e:TypeId) (sz fz g:Nat) (els:List AV)
 | obj (o:Obj)
 | loop (st:LoopState) (pend:Option Code) (N:Nat) (tm:List (Nat × AV)) (ps:Array Tmp) (assign body:Code)
 | mp (fz:Bool) (es:List (AV × AV))
 | mit (cur:Option (AV × AV)) (rest:List (AV × AV))
 | dead
 deriving Inhabited
def A5(me:Array MapEntry)(c:Nat):Prop:=(∀ m∈me.toList,m.born<c)∧(me.toList.map (·.born)).Nodup
def rq(ι:List Pl)(ψ:eo)(l:List (AV × AV))(me:List MapEntry):Prop :=
 l.length=me.length∧∀ (i:Nat) (e:AV × AV) (m:MapEntry),l[i]? = some e→me[i]? = some m→VR ι ψ e.1 m.key∧VR ι ψ e.2 m.val
theorem rq.mono{ι ι':List Pl}{ψ ψ':eo}(hx:dW ι ψ ι' ψ'){l:List (AV × AV)}{me:List MapEntry}(h:rq ι ψ l me):rq ι' ψ' l me :=
 ⟨h.1,fun i e m he hm=>⟨(h.2 i e m he hm).1.mono hx,(h.2 i e m he hm).2.mono hx⟩⟩
def ei(els:List AV):List AV:=els.flatMap AV.cells
def Na(pl:Pl)(o:Obj):Prop:=o.isCells=true→pl.gen=0∧pl.sz=1∧∃ n cap,pl.sv=.slice (some ⟨pl.blk,0,none⟩) n cap
def ng(n0:Nat)(ι:List Pl)(ψ:eo)(w:World)(pl:Pl):aH→Prop
 | .cells cs ty=>n0≤pl.blk∧(∃ (c:Array Value) (T:TypeId),w.heap[pl.blk]? = some (.cells c T (0,0))∧c.size=cs.length∧∀ (j:Nat) (x:AV),cs[j]? = some x→x.leaf=true∧∃ v,c[j]? = some v∧VR ι ψ x v)∧(∀ o,ψ.c pl.blk o=none)∧(∀ t,ty=some t→∃ c,w.heap[pl.blk]? = some (.cells c t (0,0)))
 | .arr e sz fz g els=>(pl.gen=g∧pl.sz=sz)∧(∀ x∈els,x.cells.length=sz)∧0<sz∧fz≤els.length∧(∃ xs:List Value,w.ownsRow n0 e sz pl.sv els.length xs ∧
   (∀ (j:Nat) (x:AV),(ei els)[j]? = some x→x.leaf=true∧∃ v,xs[j]? = some v∧VR ι ψ x v∧(j<fz * sz→∀ k,pl.sv.ownBlock=some k→ψ.c k j=some v))) ∧
   (∀ (k o:Nat),pl.sv.ownBlock=some k→fz * sz≤o→ψ.c k o=none)
 | .obj o=>n0≤pl.blk∧w.heap[pl.blk]? = some o∧Na pl o∧(∀ k,ψ.c pl.blk k=none)∧ψ.m pl.blk=none
 | .loop st pend N tm ps assign body=>n0≤pl.blk∧(∃ (fn:FuncId) (vs:Array Value) (d:Nat),w.heap[pl.blk]? = some (.loop { state:=st,pending:=pend,fn,tmps:=vs,params:=ps,assign,body,defers:=d }) ∧
   vs.size=N∧∀ p∈tm,VR ι ψ p.2 (vs.getD p.1 undef))∧(∀ k,ψ.c pl.blk k=none)∧ψ.m pl.blk=none
 | .mp fz es=>n0≤pl.blk∧(es.map cP).Nodup∧(∃ (me:Array MapEntry) (c:Nat) (l:List (AV × AV)),w.heap[pl.blk]? = some (.map me c)∧A5 me c∧l.Perm es∧rq ι ψ l me.toList∧ψ.m pl.blk=if fz then some (me,c) else none) ∧
   (∀ k,ψ.c pl.blk k=none)
 | .mit cur rest=>n0≤pl.blk∧((w.heap[pl.blk]? = some (.mapIter none 0 #[] 0)∧rest=[]∧cur=none)∨∃ (mb ck:Nat) (me:Array MapEntry) (seen:Array Nat) (l:List (AV × AV)),w.heap[pl.blk]? = some (.mapIter (some mb) ck seen ck) ∧
   ψ.m mb=some (me,ck)∧l.Perm rest∧rq ι ψ l (me.toList.filter (fun e=>!seen.contains e.born)) ∧
   (∀ e,cur=some e→∃ b m,seen.back? = some b∧me.find? (·.born==b)=some m∧VR ι ψ e.1 m.key∧VR ι ψ e.2 m.val))∧(∀ k,ψ.c pl.blk k=none)∧ψ.m pl.blk=none
 | .dead=>True
def aH.at(pl:Pl):aH→Option Nat
 | .cells ..=>some pl.blk
 | .obj _=>some pl.blk
 | .loop ..=>some pl.blk
 | .mp ..=>some pl.blk
 | .mit ..=>some pl.blk
 | .arr ..=>pl.sv.ownBlock
 | .dead=>none
structure cO (w0:World) (ι:List Pl) (ψ:eo) (S:List aH) (w:World):Prop where
 below:Below w0.heap.size w0 w
 psi:∀ b o v,ψ.c b o=some v→w.cell? ⟨b,o,none⟩=some v
 psim:∀ b es c,ψ.m b=some (es,c)→w.heap[b]? = some (.map es c)∧A5 es c
 len:ι.length=S.length
 blk:∀ (i:Nat) (B:aH) (pl:Pl),S[i]? = some B→ι[i]? = some pl→ng w0.heap.size ι ψ w pl B
 old:∀ b o v,b<w0.heap.size→w0.cell? ⟨b,o,none⟩=some v→ψ.c b o=some v
 inj:∀ (i j:Nat) (B C:aH) (p q:Pl) (k:Nat),S[i]? = some B→S[j]? = some C→ι[i]? = some p→ι[j]? = some q→B.at p=some k→C.at q=some k→i=j
theorem ng.ext{n0:Nat}{ι ι':List Pl}{ψ ψ':eo}{w w':World}{pl:Pl}{B:aH}(h:ng n0 ι ψ w pl B)(hx:dW ι ψ ι' ψ')
  (hw:∀ k,B.at pl=some k→w'.heap[k]? = w.heap[k]?) (hp:∀ k o,B.at pl=some k→ψ'.c k o=ψ.c k o) (hm:∀ k,B.at pl=some k→ψ'.m k=ψ.m k):ng n0 ι' ψ' w' pl B:=by
 cases B with
 | cells cs ty =>
  obtain⟨h0,⟨c,T,h1,h2,h3⟩,h4,h5⟩:=h
  refine⟨h0,⟨c,T,(hw _ rfl).trans h1,h2,fun j x e=>?_⟩,fun o=>(hp _ o rfl).trans (h4 o),fun t ht=>let ⟨c,hc⟩:=h5 t ht;⟨c,(hw _ rfl).trans hc⟩⟩
  obtain⟨hl,v,hv,hr⟩:=h3 j x e
  exact⟨hl,v,hv,hr.mono hx⟩
 | arr e sz fz g els =>
  obtain⟨hg,hsz,hpos,hfz,⟨xs,hown,hxs⟩,hps⟩:=h
  refine⟨hg,hsz,hpos,hfz,⟨xs, ?_,fun j x e'=>?_⟩,fun k o hk ho=>(hp k o hk).trans (hps k o hk ho)⟩
  ·refine⟨hown.1, ?_⟩
   rcases hown.2 with hn|⟨g',cap,cur,hv,hb,hgg,rest⟩
   ·exact .inl hn
   ·exact .inr ⟨g',cap,cur,hv,hb,(hw g' (by simp [aH.at,hv,cV])).trans hgg,rest⟩
  ·obtain⟨hl,v,hv,hr,hro⟩:=hxs j x e'
   exact⟨hl,v,hv,hr.mono hx,fun r k hk=>(hp _ _ hk).trans (hro r k hk)⟩
 | obj o =>
  obtain⟨h0,h1,h2,h3,h4⟩:=h
  exact⟨h0,(hw _ rfl).trans h1,h2,fun k=>(hp _ k rfl).trans (h3 k),(hm _ rfl).trans h4⟩
 | loop st pend N tm ps assign body =>
  obtain⟨h0,⟨fn,vs,d,h1,h2,h2'⟩,h3,h4⟩:=h
  exact⟨h0,⟨fn,vs,d,(hw _ rfl).trans h1,h2,fun p hp'=>(h2' p hp').mono hx⟩,fun k=>(hp _ k rfl).trans (h3 k),(hm _ rfl).trans h4⟩
 | mp fz es =>
  obtain⟨h0,hn,⟨me,c,l,h1,h2,h3,h4,h5⟩,h6⟩:=h
  exact⟨h0,hn,⟨me,c,l,(hw _ rfl).trans h1,h2,h3,h4.mono hx,(hm _ rfl).trans h5⟩,fun k=>(hp _ k rfl).trans (h6 k)⟩
 | mit cur rest =>
  obtain⟨h0,h1,h3,h4⟩:=h
  refine⟨h0, ?_,fun k=>(hp _ k rfl).trans (h3 k),(hm _ rfl).trans h4⟩
  rcases h1 with⟨h1,h2⟩|⟨mb,ck,me,seen,l,h1,h2,h6,h7,h8⟩
  ·exact .inl ⟨(hw _ rfl).trans h1,h2⟩
  ·exact .inr ⟨mb,ck,me,seen,l,(hw _ rfl).trans h1,hx.psi.2 _ _ h2,h6,h7.mono hx,fun e he=>let ⟨b,m,k1,k2,k3,k4⟩:=h8 e he;⟨b,m,k1,k2,k3.mono hx,k4.mono hx⟩⟩
 | dead=>trivial
end Go.Fen
namespace Go.Fen
open Go.RowKit
variable {P:Program}{w0 w w':World}{ι:List Pl}{ψ:eo}{S:List aH}
def eo.addRow(ψ:eo)(b:Nat)(c:List Value):eo:={ ψ with c:=fun b' o=>if b'=b then c[o]? else ψ.c b' o }
theorem eo.le_addRow{b:Nat}{c:List Value}(h:∀ o v,ψ.c b o=some v→c[o]? = some v):ψ.le (ψ.addRow b c):=by
 refine⟨fun b' o v e=>?_,fun _ _ e=>e⟩
 simp only [eo.addRow]
 split
 ·next hb=>subst hb;exact h o v e
 ·exact e
theorem cO.psi_new(h:cO w0 ι ψ S w){b:Nat}(hb:w.heap.size≤b)(o:Nat):ψ.c b o=none:=by
 cases e:ψ.c b o with
 | none=>rfl
 | some v =>
  have h1:=h.psi b o v e
  have h2:=jy w _ h1
  simp at h2
  omega
theorem cO.n0(h:cO w0 ι ψ S w):w0.heap.size≤w.heap.size:=h.below.size
theorem ng.at_obj{n0:Nat}{pl:Pl}{B:aH}{k:Nat}(h:ng n0 ι ψ w pl B)(hk:B.at pl=some k):n0≤k∧∃ o,w.heap[k]? = some o∧((∃ c T,o=.cells c T (0,0))∨ψ.m k=none∨∃ es,B=.mp true es):=by
 cases B with
 | cells cs ty =>
  obtain⟨h0,⟨c,T,h1,_⟩,_⟩:=h
  simp [aH.at] at hk
  subst hk
  exact⟨h0,_,h1,.inl ⟨c,T,rfl⟩⟩
 | arr e sz fz g els =>
  obtain⟨_,_,_,_,⟨xs,hown,_⟩,_⟩:=h
  rcases hown.2 with⟨hn,_⟩|⟨g',cap,cur,hv,hb,hgg,_⟩
  ·simp [aH.at,hn,cV] at hk
  ·simp [aH.at,hv,cV] at hk
   subst hk
   exact⟨hb,_,hgg,.inl ⟨cur,e,rfl⟩⟩
 | obj o =>
  obtain⟨h0,h1,h2,h3,h4⟩:=h
  simp [aH.at] at hk
  subst hk
  exact⟨h0,o,h1,.inr (.inl h4)⟩
 | loop st pend N tm ps assign body =>
  obtain⟨h0,⟨fn,vs,d,h1,_⟩,h3,h4⟩:=h
  simp [aH.at] at hk
  subst hk
  exact⟨h0,_,h1,.inr (.inl h4)⟩
 | mp fz es =>
  obtain⟨h0,hn,⟨me,c,l,h1,h2,h3,h4,h5⟩,h6⟩:=h
  simp [aH.at] at hk
  subst hk
  cases fz
  ·exact⟨h0,_,h1,.inr (.inl (by simpa using h5))⟩
  ·exact⟨h0,_,h1,.inr (.inr ⟨es,rfl⟩)⟩
 | mit cur rest =>
  obtain⟨h0,h1,h3,h4⟩:=h
  simp [aH.at] at hk
  subst hk
  rcases h1 with⟨h1,_⟩|⟨mb,ck,me,seen,l,h1,_⟩<;>exact⟨h0,_,h1,.inr (.inl h4)⟩
 | dead=>simp [aH.at] at hk
theorem eD{k:Nat}{o:Obj}(h:w.heap[k]? = some o):k<w.heap.size:=(bF.1 h).1
theorem ng.at_lt{n0:Nat}{pl:Pl}{B:aH}{k:Nat}(h:ng n0 ι ψ w pl B)(hk:B.at pl=some k):n0≤k∧k<w.heap.size:=by
 obtain⟨h0,o,h1,_⟩:=h.at_obj hk
 exact⟨h0,eD h1⟩
theorem cO.get(h:cO w0 ι ψ S w){i:Nat}{B:aH}(hi:S[i]? = some B):∃ pl,ι[i]? = some pl∧ng w0.heap.size ι ψ w pl B:=by
 have h1:i<ι.length:=by rw [h.len];exact(af.1 hi).1
 exact⟨ι[i],by simp [h1],h.blk i B _ hi (by simp [h1])⟩
theorem cO.getS(h:cO w0 ι ψ S w){i:Nat}{pl:Pl}(hi:ι[i]? = some pl):∃ B,S[i]? = some B∧ng w0.heap.size ι ψ w pl B:=by
 have h1:i<S.length:=by rw [← h.len];exact(af.1 hi).1
 exact⟨S[i],by simp [h1],h.blk i _ pl (by simp [h1]) hi⟩
theorem cO.same_heap(h:cO w0 ι ψ S w)(hh:w'.heap=w.heap)(ho:w'.os=w.os)(ht:w'.tape=w.tape)(hu:w'.output=w.output):cO w0 ι ψ S w':=by
 refine⟨h.below.trans ⟨ho,ht,hu,by rw [hh];exact ba _,fun k _=>by rw [hh]⟩,fun b o v e=>?_,fun b es c e=>by rw [hh];exact h.psim b es c e,h.len,fun i B pl hB hp=>?_,h.old,h.inj⟩
 ·have:=h.psi b o v e
  simp only [qG,hh] at this ⊢
  exact this
 ·exact(h.blk i B pl hB hp).ext (dW.refl _ _) (fun k _=>by rw [hh]) (fun _ _ _=>rfl) (fun _ _=>rfl)
theorem cO.drew(h:cO w0 ι ψ S w):cO w0 ι ψ S w.drew:=h.same_heap rfl rfl rfl rfl
theorem cO.grow(h:cO w0 ι ψ S w){ψ':eo}(hb:Below w0.heap.size w w')(hold:∀ k,k<w.heap.size→w'.heap[k]? = w.heap[k]?)(hle:ψ.le ψ')
  (hc:∀ b o v,ψ'.c b o=some v→ψ.c b o=some v∨(w.heap.size≤b∧w'.cell? ⟨b,o,none⟩=some v))
  (hm:∀ b es c,ψ'.m b=some (es,c)→ψ.m b=some (es,c)∨(w.heap.size≤b∧w'.heap[b]? = some (.map es c)∧A5 es c)):cO w0 ι ψ' S w':=by
 refine⟨h.below.trans hb,fun b o v e=>?_,fun b es c e=>?_,h.len,fun i B pl hB hp=>?_,fun b o v hb0 e=>hle.1 _ _ _ (h.old b o v hb0 e),h.inj⟩
 ·rcases hc b o v e with e1|⟨_,e1⟩
  ·have h1:=h.psi b o v e1
   have h2:=jy w _ h1
   rw [Cn (hold b h2)];exact h1
  ·exact e1
 ·rcases hm b es c e with e1|⟨_,e1⟩
  ·obtain⟨hc',hok⟩:=h.psim b es c e1
   exact⟨(hold b (eD hc')).trans hc',hok⟩
  ·exact e1
 ·have hB':=h.blk i B pl hB hp
  refine hB'.ext ⟨(dW.refl ι ψ).pl,hle⟩ (fun k hk=>hold k (hB'.at_lt hk).2) (fun k o hk=>?_) (fun k hk=>?_)
  rotate_left
  ·have hlt:=(hB'.at_lt hk).2
   cases e:ψ'.m k with
   | none =>
    cases e2:ψ.m k with
    | none=>rfl
    | some v=>rw [hle.2 k v e2] at e;cases e
   | some v =>
    rcases hm k v.1 v.2 e with e1|⟨hge,_⟩
    ·exact e1.symm
    ·omega
  have hlt:=(hB'.at_lt hk).2
  cases e:ψ'.c k o with
  | none =>
   cases e2:ψ.c k o with
   | none=>rfl
   | some v=>rw [hle.1 k o v e2] at e;cases e
  | some v =>
   rcases hc k o v e with e1|⟨hge,_⟩
   ·exact e1.symm
   ·omega
theorem cO.alloc(h:cO w0 ι ψ S w)(o:Obj):cO w0 ι ψ S (w.alloc o) :=
 h.grow ((Cx _ w).alloc h.n0 o) (fun k hk=>Below.heap_alloc w o k hk) (eo.le_refl _) (fun _ _ _ e=>.inl e) (fun _ _ _ e=>.inl e)
theorem dW.push(ι:List Pl)(ψ:eo)(p:Pl):dW ι ψ (ι++[p]) ψ:=by
 refine⟨fun i q hq=>⟨q, ?_,rfl,ba _,fun _=>rfl⟩,eo.le_refl _⟩
 have:i<ι.length:=(af.1 hq).1
 rw [au this];exact hq
theorem mX{α:Type}{l:List α}{x y:α}{i:Nat}(h:(l++[x])[i]? = some y):l[i]? = some y∨(i=l.length∧y=x):=by
 rcases Nat.lt_trichotomy i l.length with hlt|heq|hgt
 ·rw [au hlt] at h;exact .inl h
 ·subst heq;simp at h;exact .inr ⟨rfl,h.symm⟩
 ·rw [aA ω] at h
  have:i - l.length≠0:=ω
  cases hk:i - l.length with
  | zero=>omega
  | succ n=>rw [hk] at h;simp at h
theorem cO.push(h:cO w0 ι ψ S w)(pl:Pl)(B:aH)(hB:ng w0.heap.size (ι++[pl]) ψ w pl B)
  (hf:∀ k,B.at pl=some k→∀ (i:Nat) (C:aH) (q:Pl),S[i]? = some C→ι[i]? = some q→C.at q≠some k):cO w0 (ι++[pl]) ψ (S++[B]) w:=by
 refine⟨h.below,h.psi,h.psim,by simp [h.len],fun i C q hC hq=>?_,h.old,fun i j C D p q k hC hD hp hq hk1 hk2=>?_⟩
 ·rcases mX hC with hC|⟨hi,rfl⟩
  ·rcases mX hq with hq|⟨hi,rfl⟩
   ·exact(h.blk i C q hC hq).ext (dW.push ι ψ pl) (fun _ _=>rfl) (fun _ _ _=>rfl) (fun _ _=>rfl)
   ·have:=(af.1 hC).1;have:=h.len;omega
  ·rcases mX hq with hq|⟨hi,rfl⟩
   ·have:=(af.1 hq).1;have:=h.len;omega
   ·exact hB
 ·have old:∀ (i:Nat) (C:aH) (p:Pl),i≠S.length→(S++[B])[i]? = some C→(ι++[pl])[i]? = some p→S[i]? = some C∧ι[i]? = some p:=by
   intro i C p hi hC hp
   refine⟨(mX hC).resolve_right (fun e=>hi e.1),(mX hp).resolve_right (fun e=>hi (e.1.trans h.len))⟩
  have new:∀ (i:Nat) (C:aH) (p:Pl),i=S.length→(S++[B])[i]? = some C→(ι++[pl])[i]? = some p→C=B∧p=pl:=by
   intro i C p hi hC hp
   subst hi
   rw [← h.len] at hp
   simp at hC
   simp at hp
   exact⟨hC.symm,hp.symm⟩
  by_cases hi:i=S.length<;>by_cases hj:j=S.length
  ·omega
  ·obtain⟨rfl,rfl⟩:=new i C p hi hC hp
   obtain⟨h1,h2⟩:=old j D q hj hD hq
   exact absurd hk2 (hf k hk1 j D q h1 h2)
  ·obtain⟨rfl,rfl⟩:=new j D q hj hD hq
   obtain⟨h1,h2⟩:=old i C p hi hC hp
   exact absurd hk1 (hf k hk2 i C p h1 h2)
  ·obtain⟨h1,h2⟩:=old i C p hi hC hp
   obtain⟨h3,h4⟩:=old j D q hj hD hq
   exact h.inj i j C D p q k h1 h3 h2 h4 hk1 hk2
theorem cO.newCells(h:cO w0 ι ψ S w)(cs:List AV)(c:Array Value)(T:TypeId)(hl:c.size=cs.length)(hc:∀ (j:Nat) (x:AV),cs[j]? = some x→x.leaf=true∧∃ v:Value,c[j]? = some v∧VR ι ψ x v)(ty:Option TypeId:=none)(hty:∀ t,ty=some t→T=t:=by intro t e;cases e) :
  cO w0 (ι++[⟨w.heap.size,0,undef,0⟩]) ψ (S++[.cells cs ty]) (w.alloc (.cells c T)):=by
 have h1:=h.alloc (.cells c T)
 refine h1.push _ _ ⟨h.n0,⟨c,T,heap_alloc_new w _,hl,fun j x e=>?_⟩,fun o=>h.psi_new (ba _) o,fun t ht=>⟨c,by rw [← hty t ht];exact heap_alloc_new w _⟩⟩ ?_
 ·obtain⟨hlf,v,hv,hr⟩:=hc j x e
  exact⟨hlf,v,hv,hr.mono (dW.push ι ψ _)⟩
 ·intro k hk i C q hC hq hk2
  simp [aH.at] at hk
  subst hk
  have:=((h.blk i C q hC hq).at_lt hk2).2
  omega
theorem cO.update(h:cO w0 ι ψ S w){i:Nat}{B B':aH}{pl pl':Pl}{ψ':eo}(hi:S[i]? = some B)(hpl:ι[i]? = some pl)
  (hb:Below w0.heap.size w w') (hother:∀ k,B.at pl≠some k→k<w.heap.size→w'.heap[k]? = w.heap[k]?)
  (hext:dW ι ψ (ι.set i pl') ψ') (hB':ng w0.heap.size (ι.set i pl') ψ' w' pl' B')
  (hat:∀ k,B'.at pl'=some k→B.at pl=some k∨w.heap.size≤k)
  (hpsi:∀ b o v,ψ'.c b o=some v→(ψ.c b o=some v∧B.at pl≠some b)∨((B.at pl=some b∨w.heap.size≤b)∧w'.cell? ⟨b,o,none⟩=some v)) (hm:ψ'.m=ψ.m) (hfz:∀ es,B=.mp true es→w'.heap[pl.blk]? = w.heap[pl.blk]?:=by intro es hB;cases hB) :
  cO w0 (ι.set i pl') ψ' (S.set i B') w':=by
 have hB:=h.blk i B pl hi hpl
 have hil:i<S.length:=(af.1 hi).1
 have hil':i<ι.length:=by rw [h.len];exact hil
 refine⟨h.below.trans hb,fun b o v e=>?_,fun b es c e=>?_,by simp [h.len],fun j C q hC hq=>?_,fun b o v hb0 e=>hext.psi.1 _ _ _ (h.old b o v hb0 e),fun j l C D p q k hC hD hp hq hk1 hk2=>?_⟩
 ·rcases hpsi b o v e with⟨e1,hne⟩|⟨_,e1⟩
  ·have h1:=h.psi b o v e1
   rw [Cn (hother b hne (jy w _ h1))];exact h1
  ·exact e1
 ·rw [hm] at e
  obtain⟨hc,hok⟩:=h.psim b es c e
  by_cases hk:B.at pl=some b
  ·obtain⟨_,o,hcells,hcase⟩:=hB.at_obj hk
   rcases hcase with⟨c',T,rfl⟩|hn|⟨es',hmp⟩
   ·rw [hcells] at hc;cases hc
   ·rw [hn] at e;cases e
   ·have h1:=hfz es' hmp
    subst hmp
    simp [aH.at] at hk
    subst hk
    exact⟨h1.trans hc,hok⟩
  ·exact⟨(hother b hk (eD hc)).trans hc,hok⟩
 ·by_cases hji:j=i
  ·subst hji
   simp [hil] at hC
   simp [hil'] at hq
   subst hC;subst hq;exact hB'
  ·rw [be ω] at hC hq
   have hC':=h.blk j C q hC hq
   refine hC'.ext hext (fun k hk=>hother k (fun hk2=>hji (h.inj j i C B q pl k hC hi hq hpl hk hk2)) (hC'.at_lt hk).2) (fun k o hk=>?_) (fun k _=>by rw [hm])
   have hne:B.at pl≠some k:=fun hk2=>hji (h.inj j i C B q pl k hC hi hq hpl hk hk2)
   cases e:ψ'.c k o with
   | none =>
    cases e2:ψ.c k o with
    | none=>rfl
    | some v=>rw [hext.psi.1 k o v e2] at e;cases e
   | some v =>
    rcases hpsi k o v e with⟨e1,_⟩|⟨hk3|hge,_⟩
    ·exact e1.symm
    ·exact absurd hk3 hne
    ·have:=(hC'.at_lt hk).2;omega
 ·have key:∀ (j:Nat) (C:aH) (p:Pl) (k:Nat),j≠i→S[j]? = some C→ι[j]? = some p→C.at p=some k→B'.at pl'=some k→False:=by
   intro j C p k hji hC hp hk1 hk2
   rcases hat k hk2 with hk3|hge
   ·exact hji (h.inj j i C B p pl k hC hi hp hpl hk1 hk3)
   ·have:=((h.blk j C p hC hp).at_lt hk1).2;omega
  by_cases hj:j=i<;>by_cases hl:l=i
  ·omega
  ·subst hj
   simp [hil] at hC;simp [hil'] at hp
   subst hC;subst hp
   rw [be ω] at hD hq
   exact(key l D q k hl hD hq hk2 hk1).elim
  ·subst hl
   simp [hil] at hD;simp [hil'] at hq
   subst hD;subst hq
   rw [be ω] at hC hp
   exact(key j C p k hj hC hp hk1 hk2).elim
  ·rw [be ω] at hC hD hp hq
   exact h.inj j l C D p q k hC hD hp hq hk1 hk2
theorem gB{α:Type}{l:List α}{i:Nat}{x:α}(h:l[i]? = some x):l.set i x=l:=by
 apply List.ext_getElem?
 intro j
 by_cases hj:j=i
 ·subst hj
  have:j<l.length:=(af.1 h).1
  simp [this] at h ⊢;exact h.symm
 ·rw [be ω]
def gI(cs:List AV)(off:Nat)(news:List AV):List AV:=cs.take off++news++cs.drop (off+news.length)
theorem fw{α:Type}(cs news:List α)(off j:Nat)(h:off+news.length≤cs.length) :
  (cs.take off++news++cs.drop (off+news.length))[j]? = if off≤j∧j<off+news.length then news[j - off]? else cs[j]?:=by
 have hl:(cs.take off).length=off:=κ
 by_cases h1:j<off
 ·rw [aP,au ω,if_neg ω]
  simp [h1]
 ·by_cases h2:j<off+news.length
  ·rw [aP,aA ω,hl,au ω,if_pos ω]
  ·rw [aA κ,if_neg ω]
   simp only [ah,hl,cZ]
   congr 1;omega
theorem cO.storeCells(h:cO w0 ι ψ S w){i:Nat}{cs:List AV}{ty:Option TypeId}{pl:Pl}(hi:S[i]? = some (.cells cs ty))(hpl:ι[i]? = some pl)(off:Nat)(news:List AV)(nv:List Value)
  (hl:news.length=nv.length) (hn:∀ (j:Nat) (x:AV),news[j]? = some x→x.leaf=true∧∃ v:Value,nv[j]? = some v∧VR ι ψ x v) (h1:∀ v∈nv,v.oneCell'=true) (hfit:off+news.length≤cs.length) :
  ∃ w',(Go.storeCells ⟨pl.blk,off,none⟩ nv).run P w=.ok () w'∧cO w0 ι ψ (S.set i (.cells (gI cs off news) ty)) w':=by
 have hB:=h.blk i _ pl hi hpl
 obtain⟨h0,⟨c,T,hc,hcl,hcv⟩,hps,hty⟩:=hB
 have hst:=run_storeCells_at P pl.blk off T nv 0 c w hc ω h1
 simp only [l8] at hst
 refine⟨_,hst, ?_⟩
 have hset:ι.set i pl=ι:=gB hpl
 have key:=h.update (w':=w.setRow pl.blk (rg off c.toList++nv++List.drop (off+nv.length) c.toList).toArray) (ψ':=ψ) (B':=.cells (gI cs off news) ty) (pl':=pl) hi hpl ?_ ?_ ?_ ?_ ?_ ?_ rfl
 ·rw [hset] at key;exact key
 ·exact⟨rfl,rfl,rfl,by simp [World.setRow],fun k hk=>setRow_other w _ k _ ω⟩
 ·intro k hk _
  exact setRow_other w _ k _ (fun e=>hk (by simp [aH.at,e]))
 ·rw [hset];exact dW.refl _ _
 ·rw [hset]
  refine⟨h0,⟨_,T,setRow_heap w pl.blk c _ T (0,0) hc, ?_,fun j x e=>?_⟩,hps,fun t ht=>by
   obtain⟨c2,hc2⟩:=hty t ht
   rw [hc] at hc2;cases hc2
   exact⟨_,setRow_heap w pl.blk c _ T (0,0) hc⟩⟩
  ·simp [gI];omega
  ·rw [gI,fw cs news off j hfit] at e
   have e2:=fw c.toList nv off j κ
   simp only [gA]
   rw [e2]
   by_cases hj:off≤j∧j<off+news.length
   ·rw [if_pos hj] at e
    rw [if_pos ω]
    exact hn _ x e
   ·rw [if_neg hj] at e
    rw [if_neg ω]
    obtain⟨hlf,v,hv,hr⟩:=hcv j x e
    exact⟨hlf,v,by simpa using hv,hr⟩
 ·intro k hk;exact .inl (by simpa [aH.at] using hk)
 ·intro b o v e
  by_cases hb:b=pl.blk
  ·subst hb;rw [hps o] at e;cases e
  ·exact .inl ⟨e,fun hk=>hb (by simp [aH.at] at hk;exact hk.symm)⟩
end Go.Fen
namespace Go.Fen
open Go.RowKit
variable {P:Program}{w0 w w':World}{ι:List Pl}{ψ:eo}{S:List aH}
def oe:Value→AV
 | .int k n=>.int k n
 | .bool b=>.bool b
 | .string s=>.str s.data.toList
 | .pointer none=>.nilp
 | .slice none 0 0=>.snil
 | .map none=>.mnil
 | .nilFunc=>.fnil
 | .nilIface=>.inil
 | _=>.junk
def Fm:Value→AV
 | .agg cs=>.agg (cs.toList.map oe)
 | .tuple cs=>.tup (cs.toList.map oe)
 | .iface t v=>.ifc t (oe v)
 | v=>oe v
theorem nK(v:Value):VR ι ψ (oe v) v:=by
 unfold oe
 split<;>first|exact .junk _|constructor
 rfl
theorem wx(v:Value):VR ι ψ (Fm v) v:=by
 unfold Fm
 split
 ·refine .agg _ _ χ fun j x v h1 h2=>?_
  simp only [aJ,bu,h2,dp,bl] at h1
  subst h1;exact nK v
 ·refine .tup _ _ χ fun j x v h1 h2=>?_
  simp only [aJ,bu,h2,dp,bl] at h1
  subst h1;exact nK v
 ·exact .ifc _ _ _ (nK _)
 ·exact nK _
def sG:Value→AV
 | .int k n=>.int k n
 | .bool b=>.bool b
 | .string s=>.str s.data.toList
 | .pointer none=>.nilp
 | .slice none 0 0=>.sval false []
 | .map none=>.mnil
 | .nilFunc=>.fnil
 | .nilIface=>.inil
 | .iface t v=>.ifc t (sG v)
 | v=>if v.oneCell' then .val v else .junk
theorem kD(v:Value):VR ι ψ (if v.oneCell' then .val v else .junk) v:=by
 cases h:v.oneCell'
 ·exact .junk v
 ·exact .val v h
theorem yy:(v:Value)→VR ι ψ (sG v) v
 | .int k n=>.int k n
 | .bool b=>.bool b
 | .float k n=>kD _
 | .complex k a b=>kD _
 | .string s=>.str _ _ rfl
 | .pointer none=>.nilp
 | .pointer (some a)=>kD _
 | .slice none 0 0=>.svnil _
 | .slice none 0 (n+1)=>kD _
 | .slice none (m+1) n=>kD _
 | .slice (some a) m n=>kD _
 | .map none=>.mnil
 | .map (some r)=>kD _
 | .chan r=>kD _
 | .func f a b=>kD _
 | .nilFunc=>.fnil
 | .iface t v=>.ifc _ _ _ (yy v)
 | .nilIface=>.inil
 | .agg cs=>kD _
 | .tuple cs=>kD _
def gl(w0:World)(g:Nat):AV :=
 match w0.heap[g]? with
 | some (.cells c _ _)=>if c.toList.all zX then .pro (c.toList.map sG) else .junk
 | _=>.junk
theorem zo{v:Value}(h:v.oneCell'=true):(sG v).leaf=true:=by
 unfold sG
 split<;>first|rfl|(rw [if_pos h];rfl)
theorem Ew(h:cO w0 ι ψ S w)(g:Nat):VR ι ψ (gl w0 g) (.pointer (some ⟨g,0,none⟩)):=by
 unfold gl
 split
 ·next c T fz hc =>
  split
  ·next hall =>
   refine .pro _ g 0 (fun j=>(c[j]?).getD undef) (fun j x e=>?_) (fun j x e=>?_)
   all_goals
    simp only [aJ,aL,bu] at e
    obtain⟨v,hv,rfl⟩:=e
   ·have h1:=aD.1 hall v (by rw [← bu] at hv;exact ax hv)
    refine⟨zo h1, ?_⟩
    rw [bG,hv]
    exact h.old g j v (eD hc) (by simp [qG,hc,hv])
   ·rw [hv];exact yy v
  ·exact .junk _
 ·exact .junk _
def bo(w0:World)(env:Nat→AV):Operand→AV
 | .tmp t=>env t
 | .const v=>Fm v
 | .global g=>gl w0 g
 | .func f=>.fn (.func f) [] []
abbrev DS:Nat:=1000000
def wX:Value→Deferred
 | .pointer (some ad)=>{ target:=.collected ad.block,args:=#[] }
 | .func f vf vc=>{ target:=.fn f vc,args:=vf }
 | _=>default
structure fT (ι:List Pl) (ψ:eo) (N:Nat) (env:Nat→AV) (a:Act):Prop where
 size:a.tmps.size=N
 bound:N≤DS
 defers:∃ (l:List AV) (vs:List Value),env DS=.dfr l∧l.length=vs.length∧(∀ (j:Nat) (x:AV) (v:Value),l[j]? = some x→vs[j]? = some v→VR ι ψ x v)∧a.defers=vs.map wX
 tmp:∀ t,VR ι ψ (env t) (a.tmps.getD t undef)
def eY(env:Nat→AV)(t:Nat)(v:AV):Nat→AV:=fun s=>if s=t then v else env s
theorem fT.mono{ι':List Pl}{ψ':eo}{N:Nat}{env:Nat→AV}{a:Act}(h:fT ι ψ N env a)(hx:dW ι ψ ι' ψ'):fT ι' ψ' N env a:=by
 refine⟨h.size,h.bound, ?_,fun t=>(h.tmp t).mono hx⟩
 obtain⟨l,vs,h1,h2,h3,h4⟩:=h.defers
 exact⟨l,vs,h1,h2,fun j x v hx' hv=>(h3 j x v hx' hv).mono hx,h4⟩
theorem fT.put{N:Nat}{env:Nat→AV}{a:Act}{d:Nat}{v:AV}{c:Value}(h:fT ι ψ N env a)(hv:VR ι ψ v c)(hd:d<N):fT ι ψ N (eY env d v) (a.put (some d) c):=by
 refine⟨by simp [Act.put,h.size],h.bound, ?_,fun t=>?_⟩
 ·obtain⟨l,vs,h1,h2,h3,h4⟩:=h.defers
  have hb:=h.bound
  exact⟨l,vs,by rw [eY,if_neg ω];exact h1,h2,h3,h4⟩
 simp only [eY,Act.put]
 by_cases ht:t=d
 ·subst ht
  have:t<a.tmps.size:=by rw [h.size];exact hd
  simp [lF,this,hv]
 ·rw [if_neg ht]
  have:=h.tmp t
  simpa [aC,ka (Ne.symm ht)] using this
theorem fT.eval{N:Nat}{env:Nat→AV}{a:Act}(h:fT ι ψ N env a)(hR:cO w0 ι ψ S w)(x:Operand):VR ι ψ (bo w0 env x) (a.eval x):=by
 cases x with
 | tmp t=>exact h.tmp t
 | const v=>exact wx v
 | global g=>exact Ew hR g
 | func f=>exact .fn _ _ _ _ _ rfl rfl χ χ
theorem VR.int_inv{k:IntKind}{n:Int}{c:Value}(h:VR ι ψ (.int k n) c):c=.int k n:=by cases h;rfl
theorem VR.bool_inv{b:Bool}{c:Value}(h:VR ι ψ (.bool b) c):c=.bool b:=by cases h;rfl
theorem VR.str_inv{s:List UInt8}{c:Value}(h:VR ι ψ (.str s) c):c=.string ⟨s.toArray⟩:=by
 cases h with
 | str s b h=>subst h;rfl
theorem VR.str'(s:List UInt8):VR ι ψ (.str s) (.string ⟨s.toArray⟩):=.str _ _ χ
theorem VR.agg_inv{cs:List AV}{c:Value}(h:VR ι ψ (.agg cs) c):∃ vs:Array Value,c=.agg vs∧cs.length=vs.size∧∀ (j:Nat) (x:AV),cs[j]? = some x→∃ v,vs[j]? = some v∧VR ι ψ x v:=by
 cases h with
 | agg cs vs hl h =>
  refine⟨vs,rfl,hl,fun j x e=>?_⟩
  have hj:j<vs.size:=by rw [← hl];exact(af.1 e).1
  exact⟨vs[j],by simp [hj],h j x _ e (by simp [hj])⟩
theorem VR.tup_inv{cs:List AV}{c:Value}(h:VR ι ψ (.tup cs) c):∃ vs:Array Value,c=.tuple vs∧cs.length=vs.size∧∀ (j:Nat) (x:AV),cs[j]? = some x→∃ v,vs[j]? = some v∧VR ι ψ x v:=by
 cases h with
 | tup cs vs hl h =>
  refine⟨vs,rfl,hl,fun j x e=>?_⟩
  have hj:j<vs.size:=by rw [← hl];exact(af.1 e).1
  exact⟨vs[j],by simp [hj],h j x _ e (by simp [hj])⟩
theorem VR.cells{x:AV}{c:Value}(h:VR ι ψ x c)(hj:x≠.junk):c.cells.size=x.cells.length∧∀ (j:Nat) (y:AV),x.cells[j]? = some y→∃ v,c.cells[j]? = some v∧VR ι ψ y v:=by
  have one:∀ (x:AV) (c:Value),VR ι ψ x c→x.cells=[x]→c.cells=#[c]→c.cells.size=x.cells.length∧∀ (j:Nat) (y:AV),x.cells[j]? = some y→∃ v,c.cells[j]? = some v∧VR ι ψ y v:=by
    intro x c h h1 h2
    rw [h1,h2]
    refine⟨rfl,fun j y e=>?_⟩
    cases j with
    | zero=>simp at e;subst e;exact⟨c,χ,h⟩
    | succ n=>simp at e
  cases x<;>first
    | exact absurd rfl hj
    | (have hx:=h
       cases h with
       | val _ hv=>exact one _ _ hx rfl (by cases c<;>first|rfl|simp [zX] at hv))
    | (obtain⟨vs,rfl,hl,hv⟩:=h.agg_inv;exact⟨hl.symm,hv⟩)
    | (cases h<;>exact one _ _ (by constructor<;>assumption) rfl rfl)
theorem VR.oneCell{x:AV}{c:Value}(h:VR ι ψ x c)(hl:x.leaf=true):c.oneCell'=true:=by
 cases h<;>first|rfl|assumption|simp [AV.leaf] at hl
def mu(P:Program)(t:TypeId):Option Bool :=
 match P.underlying t with
 | some (.struct _)|some (.array _ _)=>some true
 | some _=>some false
 | none=>none
def ff(P:Program)(t:TypeId):Option Nat:=(P.info? t).map (·.size)
theorem cy{t:TypeId}{n:Nat}(h:ff P t=some n)(w:World):(sizeOf t).run P w=.ok n w:=by
 unfold ff at h
 cases hi:P.info? t with
 | none=>simp [hi] at h
 | some i=>simp [hi] at h;simp [sizeOf,typeInfo,hi,h]
theorem nt{t:TypeId}{b:Bool}(h:mu P t=some b)(w:World):(isAgg t).run P w=.ok b w:=by
 unfold mu at h
 cases hu:P.underlying t with
 | none=>simp [hu] at h
 | some d=>cases d<;>simp [hu] at h<;>subst h<;>simp [isAgg,run_underlying hu]
def xw(S:List aH):AV→Option (List AV)
 | .own a off=>match S[a]? with
  | some (.cells cs _)=>some (cs.drop off)
  | _=>none
 | .pro cs=>some cs
 | .oel a g i off=>match S[a]? with
  | some (.arr _ _ _ g' els)=>if g=g' then (els[i]?).map (fun e=>e.cells.drop off) else none
  | _=>none
 | _=>none
theorem kh(e:AV)(els:List AV):ei (e::els)=e.cells++ei els:=rfl
theorem dZ{els:List AV}{sz:Nat}(h:∀ x∈els,x.cells.length=sz):(ei els).length=els.length * sz:=by
 induction els with
 | nil=>simp [ei]
 | cons e els ih =>
  rw [kh,ah,h e χ,ih (fun x hx=>h x (by simp [hx])),aB,jS,Nat.add_comm]
theorem kA{els:List AV}{sz:Nat}(h:∀ x∈els,x.cells.length=sz){i j:Nat}{e x:AV}(he:els[i]? = some e)(hx:e.cells[j]? = some x):(ei els)[i * sz+j]? = some x:=by
 induction els generalizing i with
 | nil=>simp at he
 | cons e' els ih =>
  have hj:j<sz:=by
   have:=(af.1 hx).1
   rw [h e (ax he)] at this;exact this
  rw [kh]
  cases i with
  | zero =>
   simp at he;subst he
   rw [au (by rw [h e' χ];omega)]
   simpa using hx
  | succ n =>
   simp at he
   rw [aA (by rw [h e' χ,jS];omega),h e' χ]
   have:(n+1) * sz+j - sz=n * sz+j:=by rw [jS];omega
   rw [this]
   exact ih (fun x hx=>h x (by simp [hx])) he
theorem pw{els:List AV}{sz:Nat}(h:∀ x∈els,x.cells.length=sz)(hp:0<sz){k:Nat}{x:AV}(hx:(ei els)[k]? = some x):∃ e,els[k / sz]? = some e∧e.cells[k % sz]? = some x:=by
 induction els generalizing k with
 | nil=>simp [ei] at hx
 | cons e els ih =>
  rw [kh] at hx
  by_cases hk:k<sz
  ·rw [au (by rw [h e χ];exact hk)] at hx
   refine⟨e,by simp [Nat.div_eq_of_lt hk],by rw [pS hk];exact hx⟩
  ·rw [aA (by rw [h e χ];omega),h e χ] at hx
   obtain⟨e',h1,h2⟩:=ih (fun x hx=>h x (by simp [hx])) hx
   refine⟨e', ?_, ?_⟩
   ·have:k / sz=(k - sz) / sz+1:=by
     rw [← Nat.sub_add_cancel (show sz≤k by omega),Nat.add_div_right _ hp];simp
    rw [this];simpa using h1
   ·rw [Nat.mod_eq_sub_mod ω];exact h2
theorem y9(h:cO w0 ι ψ S w){x:AV}{c:Value}{cs:List AV}(hx:VR ι ψ x c)(hp:xw S x=some cs) :
  ∃ ad:Addr,ad.spot=none∧c=.pointer (some ad)∧∀ (j:Nat) (y:AV),cs[j]? = some y→y.leaf=true∧∃ v,w.cell? ⟨ad.block,ad.off+j,none⟩=some v∧VR ι ψ y v:=by
 cases hx with
 | own a off pl hpl =>
  simp only [xw] at hp
  split at hp
  ·next cs' ty hS =>
   simp at hp;subst hp
   obtain⟨_,⟨c,T,hc,hcl,hcv⟩,_⟩:=h.blk a _ pl hS hpl
   refine⟨_,rfl,rfl,fun j y e=>?_⟩
   rw [cZ] at e
   obtain⟨hl,v,hv,hr⟩:=hcv _ y e
   exact⟨hl,v,by simp [qG,hc,hv],hr⟩
  ·cases hp
 | pro cs' b o cv h1 h2 =>
  simp [xw] at hp;subst hp
  exact⟨_,rfl,rfl,fun j y e=>⟨(h1 j y e).1,cv j,h.psi _ _ _ (h1 j y e).2,h2 j y e⟩⟩
 | oel a g i off ad pl hpl hg hs =>
  simp only [xw] at hp
  split at hp
  ·next e' sz fz g' els hS =>
   split at hp
   ·next hgg =>
    obtain⟨⟨hgen,hpsz⟩,hsz,hpos,hfz,⟨xs,hown,hxs⟩,_⟩:=h.blk a _ pl hS hpl
    obtain⟨b,hb,rfl⟩:=hs (by rw [hgen,hgg])
    cases he:els[i]? with
    | none=>simp [he] at hp
    | some e =>
     simp [he] at hp;subst hp
     refine⟨_,rfl,rfl,fun j y ey=>?_⟩
     rw [cZ] at ey
     obtain⟨hl,v,hv,hr,_⟩:=hxs _ y (kA hsz he ey)
     refine⟨hl,v, ?_,hr⟩
     have:=hown.cells hb _ v hv
     rw [hpsz,qI]
     simpa [Addr.add_lit] using this
   ·cases hp
  ·cases hp
 | _=>simp [xw] at hp
end Go.Fen
namespace Go.Fen
open Go.RowKit
variable {P:Program}{w0 w w':World}{ι:List Pl}{ψ:eo}{S:List aH}
def mg(ag:Bool)(n:Nat)(cs:List AV):Option AV:=if ag then (if n≤cs.length then some (.agg (cs.take n)) else none) else cs.head?
def uv(P:Program)(S:List aH)(t:TypeId)(x:AV):Option AV :=
 match mu P t,ff P t,xw S x with
 | some ag,some n,some cs=>mg ag n cs
 | _,_,_=>none
theorem qW(h:cO w0 ι ψ S w){t:TypeId}{x y:AV}{c:Value}(hx:VR ι ψ x c)(he:uv P S t x=some y) :
  ∃ cv,(np t c).run P w=.ok cv w∧VR ι ψ y cv:=by
 unfold uv at he
 split at he
 ·next ag n cs hag hn hp =>
  obtain⟨⟨b,o,sp⟩,hsp,rfl,hcs⟩:=y9 h hx hp
  simp only at hsp hcs
  subst hsp
  cases ag with
  | true =>
   simp only [mg,if_true] at he
   split at he
   ·next hle =>
    simp at he;subst he
    have hf:∀ j,j<n→w.cell? ((⟨b,o,none⟩:Addr).add j)=some ((w.cell? ⟨b,o+j,none⟩).getD undef):=by
     intro j hj
     obtain⟨_,v,hv,_⟩:=hcs j cs[j] (by simp [show j<cs.length by omega])
     rw [Addr.add_lit,hv];rfl
    refine⟨.agg (bn (fun j=>(w.cell? ⟨b,o+j,none⟩).getD undef) (bh n)).toArray,by simp [np,eF,loadVar,nt hag,cy hn,run_loadCells w ⟨b,o,none⟩ n _ hf], ?_⟩
    refine .agg _ _ κ fun j z v h1 h2=>?_
    have hj:j<n:=by
     have:=(bF.1 h2).1;simpa using this
    rw [bc,if_pos hj] at h1
    obtain⟨_,v',hv',hr⟩:=hcs j z h1
    simp [hj,hv'] at h2
    subst h2;exact hr
   ·cases he
  | false =>
   simp [mg] at he
   obtain⟨_,v,hv,hr⟩:=hcs 0 y (by rw [← List.head?_eq_getElem?];exact he)
   refine⟨v, ?_,hr⟩
   simp only [l8] at hv
   simp [np,eF,loadVar,nt hag,hv]
 ·cases he
def px(P:Program)(s:TypeId)(f:Nat):Option Nat :=
 match P.underlying s with
 | some (.struct fs)=>match fs[f]? with
  | some fd=>match ff P fd.type with
   | some (_+1)=>some fd.offset
   | _=>none
  | none=>none
 | _=>none
def mO:AV→Nat→Option AV
 | .own a off,k=>some (.own a (off+k))
 | .oel a g i off,k=>some (.oel a g i (off+k))
 | .pro cs,k=>some (.pro (cs.drop k))
 | _,_=>none
theorem o6{x y:AV}{c:Value}{k:Nat}(hx:VR ι ψ x c)(he:mO x k=some y):∃ ad,c=.pointer (some ad)∧VR ι ψ y (.pointer (some (ad.add k))):=by
 cases hx with
 | own a off pl h =>
  simp [mO] at he;subst he
  exact⟨_,rfl,by rw [Addr.add_lit];exact .own a _ pl h⟩
 | oel a g i off ad pl h hg hs =>
  simp [mO] at he;subst he
  refine⟨_,rfl,.oel a g i _ _ pl h hg fun e=>?_⟩
  obtain⟨b,hb,rfl⟩:=hs e
  exact⟨b,hb,by rw [Addr.add_lit,qI]⟩
 | pro cs b o cv h1 h2 =>
  simp [mO] at he;subst he
  refine⟨_,rfl, ?_⟩
  rw [Addr.add_lit]
  refine .pro _ b (o+k) (fun j=>cv (k+j)) (fun j x e=>?_) (fun j x e=>?_)
  ·rw [cZ] at e
   rw [qI];exact h1 _ _ e
  ·rw [cZ] at e
   exact h2 _ _ e
 | _=>simp [mO] at he
def wd(P:Program)(s:TypeId)(x:AV)(f:Nat):Option AV :=
 match px P s f with
 | some k=>mO x k
 | none=>none
theorem wb{s:TypeId}{x y:AV}{c:Value}{f:Nat}(hx:VR ι ψ x c)(he:wd P s x f=some y):∃ cv,(Jo s c f).run P w=.ok cv w∧VR ι ψ y cv:=by
 unfold wd at he
 split at he
 ·next k hk =>
  obtain⟨ad,rfl,hr⟩:=o6 hx he
  unfold px at hk
  split at hk
  ·next fs hu =>
   split at hk
   ·next fd hfd =>
    split at hk
    ·next n hn =>
     simp at hk;subst hk
     exact⟨_,by simp [Jo,run_underlying hu,hfd,eF,fieldPlace,cy hn],hr⟩
    ·cases hk
   ·cases hk
  ·cases hk
 ·cases he
theorem ks{t:TypeId}{ag:Bool}{n:Nat}(hag:mu P t=some ag)(hn:ff P t=some n){cs:List AV}{vs:Array Value}(hl:cs.length=vs.size)
  (h:∀ (j:Nat) (x:AV),cs[j]? = some x→∃ v,vs[j]? = some v∧VR ι ψ x v) (off:Nat){y:AV} (he:mg ag n (cs.drop off)=some y) :
  ∃ cv,(part t vs off).run P w=.ok cv w∧VR ι ψ y cv:=by
 cases ag with
 | true =>
  simp only [mg,if_true] at he
  split at he
  ·next hle =>
   simp at he;subst he
   simp only [CE] at hle
   refine⟨.agg (vs.extract off (off+n)),by simp [part,nt hag,cy hn],.agg _ _ ?_ fun j x v h1 h2=>?_⟩
   ·simp only [pU,CE,Array.size_extract];omega
   ·rw [bc] at h1
    split at h1
    ·rw [cZ] at h1
     obtain⟨v',hv',hr⟩:=h _ x h1
     rw [Array.getElem?_extract] at h2
     split at h2
     ·rw [hv'] at h2;cases h2;exact hr
     ·cases h2
    ·cases h1
  ·cases he
 | false =>
  simp [mg,List.head?_drop] at he
  obtain⟨v,hv,hr⟩:=h off y he
  exact⟨v,by simp [part,nt hag,hv],hr⟩
def wa(P:Program)(t:TypeId)(x:AV)(f:Nat):Option AV :=
 match P.underlying t,x with
 | some (.struct fs),.agg cs=>match fs[f]? with
  | some fd=>match mu P fd.type,ff P fd.type with
   | some ag,some n=>mg ag n (cs.drop fd.offset)
   | _,_=>none
  | none=>none
 | _,_=>none
theorem v_{t:TypeId}{x y:AV}{c:Value}{f:Nat}(hx:VR ι ψ x c)(he:wa P t x f=some y):∃ cv,(Instr.field t c f).run P w=.ok cv w∧VR ι ψ y cv:=by
 unfold wa at he
 split at he
 ·next fs cs hu =>
  split at he
  ·next fd hfd =>
   split at he
   ·next ag n hag hn =>
    obtain⟨vs,rfl,hl,hv⟩:=hx.agg_inv
    obtain⟨cv,hr,hy⟩:=ks (w:=w) hag hn hl hv fd.offset he
    exact⟨cv,by simp [Instr.field,run_underlying hu,hfd,asAgg,hr],hy⟩
   ·cases he
  ·cases he
 ·cases he
def vX(P:Program)(t:TypeId)(x ix:AV):Option AV :=
 match P.underlying t,x,ix with
 | some .string,.str s,.int _ i=>if 0≤i then (s[i.toNat]?).map (fun b=>.int .u8 b.toNat) else none
 | some (.array len e),.agg cs,.int _ i=>if 0≤i∧i<len then (match mu P e,ff P e with
  | some ag,some n=>mg ag n (cs.drop (i.toNat * n))
  | _,_=>none) else none
 | _,_,_=>none
theorem vW{t:TypeId}{x ix y:AV}{c d:Value}(hx:VR ι ψ x c)(hi:VR ι ψ ix d)(he:vX P t x ix=some y):∃ cv,(Aa t c d).run P w=.ok cv w∧VR ι ψ y cv:=by
 unfold vX at he
 split at he
 ·next s k i hu =>
  obtain rfl:=hx.str_inv
  obtain rfl:=hi.int_inv
  split at he
  ·next h0 =>
   cases hs:s[i.toNat]? with
   | none=>simp [hs] at he
   | some b =>
    simp [hs] at he;subst he
    refine⟨_, ?_,.int _ _⟩
    have hb:(⟨s.toArray⟩:ByteArray)[i.toNat]? = some b:=by
     have hlt:=(af.1 hs).1
     have hlt':i.toNat<(⟨s.toArray⟩:ByteArray).size:=by simpa [ByteArray.size] using hlt
     rw [ByteArray.getElem?_lt' _ _ hlt']
     have:=(af.1 hs).2
     simp [ByteArray.getElem_eq_getElem_data,this]
    simp [Aa,asIntOf,run_underlying hu,h0,hb]
  ·cases he
 ·next len e cs k i hu =>
  obtain⟨vs,rfl,hl,hv⟩:=hx.agg_inv
  obtain rfl:=hi.int_inv
  split at he
  ·next h0 =>
   split at he
   ·next ag n hag hn =>
    obtain⟨cv,hr,hy⟩:=ks (w:=w) hag hn hl hv _ he
    exact⟨cv,by simp [Aa,asIntOf,run_underlying hu,h0,cy hn,hr],hy⟩
   ·cases he
  ·cases he
 ·cases he
def ow(P:Program)(S:List aH)(t:TypeId)(x ix:AV):Option AV :=
 match P.underlying t,x,ix with
 | some (.slice e),.sval _ els,.int _ i=>if 0≤i then (match els[i.toNat]? with
  | some el=>if ff P e=some el.cells.length then some (.pro el.cells) else none
  | none=>none) else none
 | some (.slice e),.sown a g n,.int _ i=>if 0≤i∧i<n then (match S[a]? with
  | some (.arr _ sz _ g' els)=>if g=g'∧n=els.length∧ff P e=some sz then some (.oel a g i.toNat 0) else none
  | _=>none) else none
 | some (.array len e),x,.int _ i=>if 0≤i∧i<len then (match ff P e with
  | some n=>mO x (i.toNat * n)
  | none=>none) else none
 | _,_,_=>none
theorem vY(h:cO w0 ι ψ S w){t:TypeId}{x ix y:AV}{c d:Value}(hx:VR ι ψ x c)(hi:VR ι ψ ix d)(he:ow P S t x ix=some y):∃ cv,(oN t c d).run P w=.ok cv w∧VR ι ψ y cv:=by
 unfold ow at he
 split at he
 ·next e full els k i hu =>
  obtain rfl:=hi.int_inv
  split at he
  ·next h0 =>
   split at he
   ·next el hel =>
    split at he
    ·next hse =>
     simp at he;subst he
     have hlt:=(af.1 hel).1
     cases hx with
     | sval sz _ _ b o cap cv hsz hcap hf h1 h2 =>
      have hs:=hsz _ _ hel
      rw [hs] at hse
      refine⟨.pointer (some ⟨b,o+i.toNat * sz,none⟩), ?_,.pro _ _ _ (fun j=>cv i.toNat j) (fun j x e=>h1 _ _ _ _ hel e) (fun j x e=>h2 _ _ _ _ hel e)⟩
      have hb:0≤i∧i<(els.length:Int):=⟨h0,ω⟩
      simp [oN,asIntOf,run_underlying hu,cy hse,hb,Addr.add_lit]
     | svnil=>simp at hel
     | sve=>simp at hel
    ·cases he
   ·cases he
  ·cases he
 ·next e a g n k i hu =>
  obtain rfl:=hi.int_inv
  split at he
  ·next h0 =>
   split at he
   ·next e' sz fz g' els hS =>
    split at he
    ·next hg =>
     obtain⟨rfl,rfl,hsz⟩:=hg
     simp at he;subst he
     cases hx with
     | sown _ _ _ ad cap pl hpl hgl hs =>
      obtain⟨⟨hgen,hpsz⟩,_,_,_,⟨xs,hown,hxs⟩,_⟩:=h.blk a _ pl hS hpl
      have hsv:=hs hgen.symm
      rcases hown.2 with⟨hn,hn0⟩|⟨b,cap',cur,hv,hb,hgg,_⟩
      ·omega
      ·rw [hv] at hsv
       cases hsv
       refine⟨.pointer (some ⟨b,0+i.toNat * sz,none⟩), ?_,.oel a g _ 0 _ pl hpl hgl fun _=>⟨b,by rw [hv];rfl,by rw [hpsz];simp⟩⟩
       simp [oN,asIntOf,run_underlying hu,cy hsz,h0,Addr.add_lit]
    ·cases he
   ·cases he
  ·cases he
 ·next len e x k i hu =>
  obtain rfl:=hi.int_inv
  split at he
  ·next h0 =>
   split at he
   ·next n hn =>
    obtain⟨ad,rfl,hr⟩:=o6 hx he
    exact⟨_,by simp [oN,asIntOf,run_underlying hu,eF,cy hn,h0],hr⟩
   ·cases he
  ·cases he
 ·cases he
end Go.Fen
namespace Go.Fen
open Go.RowKit
variable {P:Program}{w0 w w':World}{ι:List Pl}{ψ:eo}{S:List aH}
def tC(ι:List Pl)(ψ:eo):Option AV→Option Value→Prop
 | none,none=>True
 | some x,some c=>VR ι ψ x c
 | _,_=>False
def mq(x:Option AV)(dflt y:Nat):Option Nat :=
 match x with
 | none=>some dflt
 | some (.int _ i)=>if 0≤i∧i≤(y:Int) then some i.toNat else none
 | _=>none
theorem lx{x:Option AV}{c:Option Value}{dflt y z:Nat}{n:Nat}(hx:tC ι ψ x c)(hy:y≤z)(h:mq x dflt y=some n) :
  (c=none∧x=none∧n=dflt)∨(∃ k i,c=some (.int k i)∧n≤y∧∀ (code:BoundsCode) (w:World),(IQ (.int k i) z code).run P w=.ok n w):=by
 cases x with
 | none =>
  cases c with
  | none=>simp [mq] at h;exact .inl ⟨rfl,rfl,h.symm⟩
  | some c=>exact hx.elim
 | some x =>
  cases c with
  | none=>exact hx.elim
  | some c =>
   cases x<;>simp [mq] at h
   next k i =>
   obtain⟨⟨h0,h1⟩,rfl⟩:=h
   have:=VR.int_inv hx
   subst this
   have h2:i≤(z:Int):=ω
   refine .inr ⟨_,_,rfl,ω,fun code w=>?_⟩
   simp [IQ,asIntOf,h0,h2]
def vm(P:Program)(t:TypeId)(x:AV)(lo hi mx:Option AV):Option AV :=
 match P.underlying t,x,mx with
 | some .string,.str s,none =>
  match mq hi s.length s.length with
  | some h=>match mq lo 0 h with
   | some l=>some (.str ((s.take h).drop l))
   | none=>none
  | none=>none
 | some (.slice e),.sval full els,none =>
  match ff P e with
  | some n=>if els.all (fun el=>el.cells.length==n)=true then
   match mq hi els.length els.length with
   | some h=>match mq lo 0 h with
    | some l=>some (.sval (full&&h==els.length) ((els.take h).drop l))
    | none=>none
   | none=>none
   else none
  | none=>none
 | some (.slice e),.sval _ els,some m =>
  match ff P e with
  | some n=>if els.all (fun el=>el.cells.length==n)=true∧hi.isSome=true then
   match mq (some m) 0 els.length with
   | some m=>match mq hi 0 m with
    | some h=>match mq lo 0 h with
     | some l=>some (.sval (h==m) ((els.take h).drop l))
     | none=>none
    | none=>none
   | none=>none
   else none
  | none=>none
 | some (.array n e),.pro cs,none=>if ff P e=some 1∧cs.length=n∧cs.all AV.leaf=true∧lo.isNone=true∧hi.isNone=true then some (.sval true cs) else none
 | _,_,_=>none
theorem ra{lo hi:Option AV}{clo chi:Option Value}{len cap y h l:Nat}(b:Bool)(hlo:tC ι ψ lo clo)(hhi:tC ι ψ hi chi)(hy:y≤cap)
  (h1:mq hi len y=some h) (h2:mq lo 0 h=some l):(eu b len cap clo chi none).run P w=.ok (l,h,cap) w:=by
 rcases lx (P:=P) hhi hy h1 with⟨rfl,_,rfl⟩|⟨k,i,rfl,_,hr⟩<;>rcases lx (P:=P) hlo (ba _) h2 with⟨rfl,_,rfl⟩|⟨k',i',rfl,_,hr'⟩ <;>
  cases b<;>simp_all [eu]
theorem ym{m':AV}{lo hi:Option AV}{clo chi:Option Value}{cm:Value}{len cap y m h l:Nat}(b:Bool)(hlo:tC ι ψ lo clo)(hhi:tC ι ψ hi chi)(hs:hi.isSome=true)(hm:VR ι ψ m' cm)(hy:y≤cap)
  (h0:mq (some m') 0 y=some m) (h1:mq hi 0 m=some h) (h2:mq lo 0 h=some l):(eu b len cap clo chi (some cm)).run P w=.ok (l,h,m) w:=by
 have hm':tC ι ψ (some m') (some cm):=hm
 rcases lx (P:=P) hm' hy h0 with⟨hc,_⟩|⟨k0,i0,hc,_,hr0⟩
 ·cases hc
 ·cases hc
  rcases lx (P:=P) hhi (ba _) h1 with⟨rfl,hn,rfl⟩|⟨k,i,rfl,_,hr⟩
  ·rw [hn] at hs;cases hs
  ·rcases lx (P:=P) hlo (ba _) h2 with⟨rfl,_,rfl⟩|⟨k',i',rfl,_,hr'⟩ <;>
   cases b<;>simp_all [eu]
theorem tq{x:Option AV}{dflt y n:Nat}(h:mq x dflt y=some n):n=dflt∨n≤y:=by
 unfold mq at h
 split at h
 ·simp at h;exact .inl h.symm
 ·split at h
  ·simp at h;right;omega
  ·cases h
 ·cases h
theorem VR.part{n:Nat}{full:Bool}{els:List AV}{a:Option Addr}{len cap l h m:Nat}{f':Bool}(hx:VR ι ψ (.sval full els) (.slice a len cap))(hn:els.all (fun el=>el.cells.length==n)=true)(hl:l≤h)(hh:h≤els.length)(hm:h≤m)(hmc:m≤cap)(hf:f'=true→m=h) :
  VR ι ψ (.sval f' ((els.take h).drop l)) (.slice (if m=l then a else a.map (·.add (l * n))) (h - l) (m - l)):=by
 cases hx with
 | svnil =>
  simp only [aI] at hh
  have h0:m=0:=ω
  have h1:l=0:=ω
  have h2:h=0:=ω
  subst h0 h1 h2
  simpa using VR.svnil f'
 | sve _ ad _ hf0 =>
  simp only [aI] at hh
  have h1:l=0:=ω
  have h2:h=0:=ω
  subst h1 h2
  have key:=fun ad=>VR.sve (ι:=ι) (ψ:=ψ) f' ad m hf
  by_cases hm0:m=0<;>simpa [hm0] using key _
 | sval sz _ _ b o _ cv hsz hcap hf0 h1 h2 =>
  have hlen:((els.take h).drop l).length=h - l:=κ
  have hget:∀ (i:Nat) (e:AV),((els.take h).drop l)[i]? = some e→els[l+i]? = some e:=by
   intro i e he
   rw [cZ,bc] at he
   split at he
   ·exact he
   ·cases he
  by_cases hml:m=l
  ·have h0:h - l=0:=ω
   have hnil:(els.take h).drop l=[]:=bW ω
   rw [if_pos hml,hnil,h0]
   have:=VR.sval (ι:=ι) (ψ:=ψ) n f' [] b o (m - l) (fun _ _=>undef) χ χ (fun e=>by have:=hf e;simp;omega) χ χ
   simpa using this
  ·rw [if_neg hml]
   simp only [dp,Addr.add_lit]
   by_cases hnil:(els.take h).drop l=[]
   ·rw [hnil]
    have h0:h - l=0:=by rw [← hlen,hnil];rfl
    rw [h0]
    have:=VR.sval (ι:=ι) (ψ:=ψ) n f' [] b (o+l * n) (m - l) (fun _ _=>undef) χ χ (fun e=>by have:=hf e;simp;omega) χ χ
    simpa using this
   ·have hnsz:n=sz:=by
     cases hc:(els.take h).drop l with
     | nil=>exact absurd hc hnil
     | cons e r =>
      have he:=hget 0 e (by rw [hc];rfl)
      have h3:=hsz _ e he
      have h4:=aD.1 hn e (ax he)
      simp at h4;omega
    subst hnsz
    rw [← hlen]
    refine .sval n f' _ b (o+l * n) (m - l) (fun i j=>cv (l+i) j) (fun i e he=>hsz _ e (hget i e he)) ω (fun e=>by have:=hf e;omega) (fun i e j x he hj=>?_) (fun i e j x he hj=>h2 _ e j x (hget i e he) hj)
    have:=h1 _ e j x (hget i e he) hj
    rw [show o+l * n+i * n+j=o+(l+i) * n+j by rw [eH];omega]
    exact this
theorem VR.sval_len{full:Bool}{els:List AV}{c:Value}(hx:VR ι ψ (.sval full els) c):∃ a cap,c=.slice a els.length cap∧els.length≤cap∧(full=true→cap=els.length):=by
 cases hx with
 | svnil=>exact⟨none,0,rfl,ba _,fun _=>rfl⟩
 | sve _ ad cap hf=>exact⟨some ad,cap,rfl,bf _,hf⟩
 | sval sz _ _ b o cap cv hsz hcap hf0 h1 h2=>exact⟨_,cap,rfl,hcap,hf0⟩
theorem vl{t:TypeId}{x y:AV}{c:Value}{lo hi mx:Option AV}{clo chi cmx:Option Value}(hx:VR ι ψ x c)(hlo:tC ι ψ lo clo)(hhi:tC ι ψ hi chi)(hmx:tC ι ψ mx cmx)
  (he:vm P t x lo hi mx=some y):∃ cv,(gj t c clo chi cmx).run P w=.ok cv w∧VR ι ψ y cv:=by
 unfold vm at he
 split at he
 ·next s hu =>
  obtain rfl:=hx.str_inv
  cases cmx with
  | some c=>exact hmx.elim
  | none =>
   split at he
   ·next h hh =>
    split at he
    ·next l hl =>
     simp at he;subst he
     have hb:=ra (P:=P) (w:=w) false hlo hhi (ba s.length) hh hl
     refine⟨_,by simp [gj,z_,run_underlying hu,hb,nq];rfl, ?_⟩
     refine .str _ _ ?_
     simp [ByteArray.data_extract,List.drop_take]
    ·cases he
   ·cases he
 ·next e full els hu =>
  cases cmx with
  | some c=>exact hmx.elim
  | none =>
   split at he
   ·next n hse =>
    split at he
    ·next hall =>
     split at he
     ·next h hh =>
      split at he
      ·next l hl =>
       simp at he;subst he
       obtain⟨a,cap,rfl,hcap,hf⟩:=hx.sval_len
       have hb:=ra (P:=P) (w:=w) (len:=els.length) true hlo hhi hcap hh hl
       have h1':h≤els.length:=by rcases tq hh with rfl|h<;>omega
       have h2':l≤h:=by rcases tq hl with rfl|h<;>omega
       refine⟨_,by simp [gj,z_,run_underlying hu,hb,cy hse];rfl, ?_⟩
       refine VR.part hx hall h2' h1' ω (ba _) (fun e=>?_)
       simp at e
       rw [hf e.1,e.2]
      ·cases he
     ·cases he
    ·cases he
   ·cases he
 ·next e full els m hu =>
  cases cmx with
  | none=>exact hmx.elim
  | some cm =>
   split at he
   ·next n hse =>
    split at he
    ·next hall =>
     split at he
     ·next m' hm =>
      split at he
      ·next h hh =>
       split at he
       ·next l hl =>
        simp at he;subst he
        obtain⟨a,cap,rfl,hcap,hf⟩:=hx.sval_len
        have hb:=ym (P:=P) (w:=w) (len:=els.length) true hlo hhi hall.2 hmx hcap hm hh hl
        have h0':m'≤els.length:=by rcases tq hm with rfl|h<;>omega
        have h1':h≤m':=by rcases tq hh with rfl|h<;>omega
        have h2':l≤h:=by rcases tq hl with rfl|h<;>omega
        refine⟨_,by simp [gj,z_,run_underlying hu,hb,cy hse];rfl, ?_⟩
        exact VR.part hx hall.1 h2' ω h1' ω (fun e=>by simp at e;omega)
       ·cases he
      ·cases he
     ·cases he
    ·cases he
   ·cases he
 ·next n e cs hu =>
  cases cmx with
  | some c=>exact hmx.elim
  | none =>
   split at he
   ·next hall =>
    obtain⟨hs,hl,hlf,hlo0,hhi0⟩:=hall
    obtain rfl:lo=none:=by simpa using hlo0
    obtain rfl:hi=none:=by simpa using hhi0
    obtain rfl:clo=none:=by cases clo with
     | none=>rfl
     | some c=>exact hlo.elim
    obtain rfl:chi=none:=by cases chi with
     | none=>rfl
     | some c=>exact hhi.elim
    simp at he;subst he
    cases hx with
    | pro _ b off cv h1 h2 =>
     have hres:(gj t (.pointer (some ⟨b,off,none⟩)) none none none).run P w=.ok (.slice (some ⟨b,off,none⟩) n n) w:=by
      by_cases hn:n=0
      ·subst hn
       simp [gj,eF,run_underlying hu,eu,cy hs]
      ·simp [gj,eF,run_underlying hu,eu,cy hs,hn,Addr.add_lit]
     refine⟨_,hres, ?_⟩
     have hc1:∀ (i:Nat) (y z:AV) (j:Nat),cs[i]? = some y→y.cells[j]? = some z→j=0∧z=y:=by
      intro i y z j hy hz
      have hyl:=aD.1 hlf y (ax hy)
      have:y.cells=[y]:=by cases y<;>first|rfl|cases hyl
      rw [this] at hz
      cases j with
      | zero=>exact⟨rfl,by simpa using hz.symm⟩
      | succ j=>simp at hz
     rw [← hl]
     refine .sval 1 true cs b off cs.length (fun i _=>cv i) (fun i y hy=>?_) (ba _) (fun _=>rfl) (fun i y j z hy hz=>?_) (fun i y j z hy hz=>?_)
     ·have hyl:=aD.1 hlf y (ax hy)
      cases y<;>first|rfl|cases hyl
     ·obtain⟨rfl,rfl⟩:=hc1 i y z j hy hz
      have:=h1 i z hy
      rw [Nat.mul_one,l8]
      exact this
     ·obtain⟨rfl,rfl⟩:=hc1 i y z j hy hz
      exact h2 i z hy
   ·cases he
 ·cases he
def nD(op:BinOp)(k:IntKind)(a b:Int):Option AV :=
 match op with
 | .add=>some (.int k (k.wrap (a+b)))
 | .sub=>some (.int k (k.wrap (a - b)))
 | .mul=>some (.int k (k.wrap (a * b)))
 | .quo=>if b=0 then none else some (.int k (k.wrap (a.tdiv b)))
 | .rem=>if b=0 then none else some (.int k (a.tmod b))
 | .and=>some (.int k (k.wrap ((ar k.bits a &&& ar k.bits b).toNat)))
 | .or=>some (.int k (k.wrap ((ar k.bits a ||| ar k.bits b).toNat)))
 | .xor=>some (.int k (k.wrap ((ar k.bits a ^^^ ar k.bits b).toNat)))
 | .andNot=>some (.int k (k.wrap ((ar k.bits a &&& ~~~ ar k.bits b).toNat)))
 | .eql=>some (.bool (a==b))
 | .neq=>some (.bool (a != b))
 | .lss=>some (.bool (decide (a<b)))
 | .leq=>some (.bool (decide (a≤b)))
 | .gtr=>some (.bool (decide (b<a)))
 | .geq=>some (.bool (decide (b≤a)))
 | _=>none
def rC(op:BinOp)(a b:List UInt8):Option AV :=
 match op with
 | .add=>if a.length+b.length≤9223372036854775807 then some (.str (a++b)) else none
 | .eql=>some (.bool (a==b))
 | .neq=>some (.bool (!(a==b)))
 | .lss=>some (.bool (rM a b))
 | .leq=>some (.bool (rM a b||a==b))
 | .gtr=>some (.bool (!(rM a b||a==b)))
 | .geq=>some (.bool (!(rM a b)))
 | _=>none
def vp(op:BinOp)(k:IntKind)(a b:Int):Option AV :=
 if b<0 then none else
 match op with
 | .shl=>some (.int k (k.wrap (a * 2 ^ (min b.toNat k.bits))))
 | .shr=>some (.int k (a.fdiv (2 ^ (min b.toNat k.bits))))
 | _=>none
def qZ(eq:TypeId→AV→AV→Option Bool)(P:Program)(xs ys:List AV):List Field→Option Bool
 | []=>some true
 | f::fs =>
  if f.name = "_" then qZ eq P xs ys fs else
  match mu P f.type,ff P f.type with
  | some ag,some n=>match mg ag n (xs.drop f.offset),mg ag n (ys.drop f.offset) with
   | some a,some b=>match eq f.type a b,qZ eq P xs ys fs with
    | some b1,some b2=>some (b1&&b2)
    | _,_=>none
   | _,_=>none
  | _,_=>none
def CA(P:Program):Nat→TypeId→AV→AV→Option Bool
 | 0,_,_,_=>none
 | d+1,t,x,y =>
  match P.underlying t,x,y with
  | some .bool,.bool a,.bool b=>some (a==b)
  | some (.int _),.int k a,.int k' b=>if k=k' then some (a==b) else none
  | some .string,.str a,.str b=>some (a==b)
  | some (.struct fs),.agg xs,.agg ys=>if P.stoodInHeld t then none else qZ (CA P d) P xs ys fs.toList
  | _,_,_=>none
theorem qq:∀ (d:Nat) (t:TypeId) (x y:AV) (c e:Value) (r:Bool),VR ι ψ x c→VR ι ψ y e→CA P d t x y=some r→∀ (k:Nat) (w:World),(gm (d+k) t c e).run P w=.ok r w:=by
 intro d
 induction d with
 | zero=>intro t x y c e r _ _ h;simp [CA] at h
 | succ d ih =>
  intro t x y c e r hx hy h k w
  rw [show d+1+k=(d+k)+1 by omega]
  simp only [CA] at h
  split at h
  ·next a b hu =>
   obtain rfl:=hx.bool_inv;obtain rfl:=hy.bool_inv
   simp at h;subst h
   exact run_equalIn_bool w _ t a b hu
  ·next k1 k2 a k3 b hu =>
   obtain rfl:=hx.int_inv;obtain rfl:=hy.int_inv
   split at h
   ·next hk =>
    subst hk
    simp at h;subst h
    exact run_equalIn_int w _ t k2 k1 a b hu
   ·cases h
  ·next a b hu =>
   obtain rfl:=hx.str_inv;obtain rfl:=hy.str_inv
   simp at h;subst h
   rw [run_equalIn_string w _ t _ _ hu];simp
  ·next fs xs ys hu =>
   obtain⟨vx,rfl,hlx,hvx⟩:=hx.agg_inv
   obtain⟨vy,rfl,hly,hvy⟩:=hy.agg_inv
   split at h
   ·cases h
   ·next hp =>
    have hfs:P.fieldsOf t=fs:=by simp [Program.fieldsOf,hu]
    rw [run_equalIn_struct w _ t vx vy (by rw [hfs];exact hu) (by simpa using hp),hfs]
    clear hfs hu
    generalize fs.toList=l at h
    induction l generalizing w with
    | nil=>simp [qZ] at h;subst h;simp [Op.eqFields]
    | cons f fs ihl =>
     simp only [qZ] at h
     simp only [Op.eqFields]
     by_cases hn:f.name = "_"
     ·rw [if_pos hn] at h
      simp only [hn,ne_eq,not_true_eq_false,if_false]
      exact ihl w h
     ·rw [if_neg hn] at h
      simp only [ne_eq,hn,not_false_eq_true,if_true]
      split at h
      ·next ag n hag hsn =>
       split at h
       ·next a b ha hb =>
        obtain⟨ca,hra,hva⟩:=ks (P:=P) (w:=w) hag hsn hlx hvx _ ha
        obtain⟨cb,hrb,hvb⟩:=ks (P:=P) (w:=w) hag hsn hly hvy _ hb
        simp only [co,hra,hrb,cA]
        split at h
        ·next b1 b2 he h2 =>
         rw [ih _ _ _ _ _ _ hva hvb he k w]
         simp at h
         subst h
         cases b1 with
         | true=>simpa using ihl w h2
         | false=>simp
        ·cases h
       ·cases h
      ·cases h
  ·cases h
end Go.Fen
namespace Go.Fen
open Go.RowKit
variable {P:Program}{w0 w w':World}{ι:List Pl}{ψ:eo}{S:List aH}
def pk:Operand→Bool
 | .const _=>true
 | _=>false
def Ig(P:Program)(t:TypeId)(ox oy:Operand)(x y:AV):Option Bool :=
 match P.underlying t,x,y with
 | some .bool,.bool a,.bool b=>some (a==b)
 | some (.struct _),.agg xs,.agg ys=>if P.eqGuardType P.depth t=false then CA P 9 t (.agg xs) (.agg ys) else none
 | some (.slice _),.snil,.snil=>some true
 | some (.slice _),.sval _ (_::_),.snil=>some false
 | some (.pointer _),.nilp,.nilp=>some true
 | some (.pointer _),.own ..,.nilp|some (.pointer _),.pro ..,.nilp|some (.pointer _),.nilp,.own ..|some (.pointer _),.nilp,.pro ..=>some false
 | some (.map _ _),.mnil,.mnil=>some true
 | some (.map _ _),.mval ..,.mnil|some (.map _ _),.mown ..,.mnil=>some false
 | some (.func _ _ _),.fnil,.fnil=>some true
 | some (.func _ _ _),.fn ..,.fnil=>some false
 | some (.interface ms),.inil,.inil=>if pk ox||pk oy||ms.isEmpty then some true else none
 | some (.interface _),.ifc ..,.inil|some (.interface _),.inil,.ifc ..=>some false
 | some (.interface _),.ifc t1 v1,.ifc t2 v2=>if t1=t2 then (match P.info? t1 with
  | some i=>if i.comparable=true then CA P 9 t1 v1 v2 else none
  | none=>none) else some false
 | _,_,_=>none
def qP(P:Program)(t:TypeId)(x y:AV):Option Bool :=
 match P.underlying t,x,y with
 | some (.pointer e),.own a o,.own b p=>if a=b∧o=p∧(P.info? e).isSome=true then some true else none
 | _,_,_=>none
def Iz(P:Program)(op:BinOp)(t:TypeId)(ox oy:Operand)(x y:AV):Option AV :=
 match x,y with
 | .int k a,.int k' b =>
  if op=.shl∨op=.shr then vp op k a b else if k=k' then nD op k a b else none
 | .str a,.str b=>rC op a b
 | _,_=>match op with
  | .eql=>((Ig P t ox oy x y).orElse fun _=>qP P t x y).map .bool
  | .neq=>((Ig P t ox oy x y).orElse fun _=>qP P t x y).map (fun b=>.bool (!b))
  | _=>none
def jx(P:Program)(op:BinOp)(t:TypeId)(ox oy:Operand)(c d:Value)(w:World):Prop:=(eqGuard op t ox oy c d).run P w=.ok () w
theorem iu{op:BinOp}{t:TypeId}{ox oy:Operand}{c d:Value}(h1:¬ (c=.nilIface∧d=.nilIface))(h2:∀ a b,¬ (c=.agg a∧d=.agg b)):jx P op t ox oy c d w:=by
 unfold jx eqGuard
 cases c<;>cases d<;>first|exact absurd ⟨rfl,rfl⟩ h1|exact absurd ⟨rfl,rfl⟩ (h2 _ _)|(simp;done)|(cases op<;>simp;done)
theorem xP{op:BinOp}{t:TypeId}{ox oy:Operand}{c d:Value}(h:op≠.eql∧op≠.neq):jx P op t ox oy c d w:=by
 unfold jx eqGuard
 cases op<;>simp_all
theorem xf{op:BinOp}{k k':IntKind}{a b:Int}{t:TypeId}{y:AV}(hop:op=.shl∨op=.shr)(h:vp op k a b=some y):∃ cv,(binOp op t (.int k a) (.int k' b)).run P w=.ok cv w∧VR ι ψ y cv:=by
 unfold vp at h
 split at h
 ·cases h
 ·next hb =>
  rcases hop with rfl|rfl<;>simp at h<;>subst h<;>exact⟨_,by simp [binOp_shl,binOp_shr,Op.shift,hb],.int _ _⟩
theorem vV{op:BinOp}{k:IntKind}{a b:Int}{t:TypeId}{y:AV}(hop:¬ (op=.shl∨op=.shr))(h:nD op k a b=some y):∃ cv,(binOp op t (.int k a) (.int k b)).run P w=.ok cv w∧VR ι ψ y cv:=by
 cases op<;>simp [nD] at h<;>(try (obtain⟨h0,h⟩:=h))<;>(try subst h) <;>
  first
  | exact⟨_,by simp [binOp,Op.intArith,Op.intDiv,Ft,Op.intCmp, *];rfl,by constructor⟩
  | exact⟨_,by simp [binOp,Op.intArith,Op.intDiv,Ft,Op.intCmp, *],by constructor⟩
  | simp at hop
theorem vg{op:BinOp}{a b:List UInt8}{t:TypeId}{y:AV}(h:rC op a b=some y):∃ cv,(binOp op t (.string ⟨a.toArray⟩) (.string ⟨b.toArray⟩)).run P w=.ok cv w∧VR ι ψ y cv:=by
  cases op<;>simp [rC] at h<;>(try (obtain⟨h0,h⟩:=h))<;>(try subst h) <;>
    first
    | (refine⟨.bool _, ?_,.bool _⟩;simp [binOp,Op.stringOp];done)
    | (refine⟨.string (⟨a.toArray⟩++⟨b.toArray⟩), ?_, ?_⟩
       · rw [binOp_string_add,run_string_add_sum _ _ _ (by simpa [nq] using h0)]
       · rw [ByteArray.mk_append_mk];exact .str' _)
def jd:Value→Value→Bool
 | .int ..,.int .. | .float ..,.float .. | .complex ..,.complex .. | .string ..,.string ..=>false
 | _,_=>true
theorem ro{c d:Value}(h:jd c d=true)(t:TypeId):binOp .eql t c d=(do pure (.bool (← mB t c d))):=by
 cases c<;>cases d<;>first|rfl|(simp [jd] at h)
theorem rn{c d:Value}(h:jd c d=true)(t:TypeId):binOp .neq t c d=(do pure (.bool (!(← mB t c d)))):=by
 cases c<;>cases d<;>first|rfl|(simp [jd] at h)
theorem B6{op:BinOp}{t:TypeId}{ox oy:Operand}{x y:AV}{c d:Value}{b:Bool}(hx:VR ι ψ x c)(hy:VR ι ψ y d)(h:Ig P t ox oy x y=some b) :
  (mB t c d).run P w=.ok b w∧jx P op t ox oy c d w∧jd c d=true:=by
 unfold Ig at h
 split at h
 ·next a a' hu =>
  obtain rfl:=hx.bool_inv;obtain rfl:=hy.bool_inv
  simp at h;subst h
  exact⟨run_equal_bool w t a a' hu,iu χ χ,rfl⟩
 ·next fs xs ys hu =>
  split at h
  ·next hg =>
   have he:=qq 9 t _ _ c d b hx hy h 9991 w
   obtain⟨vx,rfl,_⟩:=hx.agg_inv;obtain⟨vy,rfl,_⟩:=hy.agg_inv
   refine⟨he, ?_,rfl⟩
   by_cases hop:op=.eql∨op=.neq
   ·exact run_eqGuard_agg w op t ox oy vx vy hg
   ·exact xP (by simpa using hop)
  ·cases h
 case h_15 ms hu =>
  split at h
  ·next hcst =>
   simp at h;subst h
   cases hx;cases hy
   refine⟨(fun n=>by simp [gm,run_underlying hu]:∀ n,(gm (n+1) t .nilIface .nilIface).run P w=.ok true w) 9999, ?_,rfl⟩
   unfold jx eqGuard
   simp only [ef] at hcst
   rcases hcst with(hcst|hcst)|hcst
   ·cases ox<;>simp [pk] at hcst
    cases op<;>simp
   ·cases oy<;>simp [pk] at hcst
    cases op<;>simp
   ·have hz:ms.isEmpty=true:=hcst
    cases op<;>(first|(simp;done)|(have hk:=(fun n=>by simp [Op.eqGuardIn,run_underlying hu,hz]:∀ n,(Op.eqGuardIn (n+1) t .nilIface .nilIface).run P w=.ok false w) 9999;simp [show Op.maxDepth=9999+1 from rfl,hk]))
  ·cases h
 case h_18 ms t1 v1 t2 v2 hu =>
  cases hx with
  | ifc _ _ c hc =>
  cases hy with
  | ifc _ _ d hd =>
  refine⟨?_,iu χ χ,rfl⟩
  split at h
  ·next ht =>
   subst ht
   split at h
   ·next i hi =>
    split at h
    ·next hcmp =>
     have he:=qq 9 t1 _ _ c d b hc hd h 9990 w
     refine(fun n hn=>by simp [gm,run_underlying hu,typeInfo,hi,hcmp,hn]:∀ n,(gm n t1 c d).run P w=.ok b w→(gm (n+1) t (.iface t1 c) (.iface t1 d)).run P w=.ok b w) 9999 he
    ·cases h
   ·cases h
  ·next ht =>
   simp at h;subst h
   exact(fun n=>by simp [gm,run_underlying hu,ht]:∀ n,(gm (n+1) t (.iface t1 c) (.iface t2 d)).run P w=.ok false w) 9999
 all_goals first
  | (cases h;done)
  | (next hu=>simp at h;subst h;cases hx;cases hy;exact⟨(fun n=>by simp [gm,run_underlying hu]:∀ n,(gm (n+1) t _ _).run P w=.ok _ w) 9999,iu χ χ,rfl⟩)
theorem xv{op:BinOp}{t:TypeId}{ox oy:Operand}{x y:AV}{c d:Value}{b:Bool}(hx:VR ι ψ x c)(hy:VR ι ψ y d)(h:qP P t x y=some b) :
  (mB t c d).run P w=.ok b w∧jx P op t ox oy c d w∧jd c d=true:=by
 unfold qP at h
 split at h
 ·next e a o b' p hu =>
  split at h
  ·next hc =>
   obtain⟨rfl,rfl,hi⟩:=hc
   simp at h;subst h
   obtain⟨j,hj⟩:=Option.isSome_iff_exists.1 hi
   cases hx with
   | own _ _ pl hpl =>
    cases hy with
    | own _ _ pl' hpl' =>
     rw [hpl] at hpl';cases hpl'
     refine⟨(fun n=>by simp [gm,run_underlying hu,sizeOf,typeInfo,hj,run_sameAddr_same]:∀ n,(gm (n+1) t _ _).run P w=.ok true w) 9999,iu χ χ,rfl⟩
  ·cases h
 ·cases h
theorem uM{op:BinOp}{t:TypeId}{ox oy:Operand}{x y:AV}{c d:Value}{b:Bool}(hx:VR ι ψ x c)(hy:VR ι ψ y d)(h:((Ig P t ox oy x y).orElse fun _=>qP P t x y)=some b) :
  (mB t c d).run P w=.ok b w∧jx P op t ox oy c d w∧jd c d=true:=by
 cases he:Ig P t ox oy x y with
 | none=>rw [he] at h;exact xv hx hy (by simpa using h)
 | some b'=>rw [he] at h;simp at h;subst h;exact B6 hx hy he
theorem zO{op:BinOp}{t:TypeId}{ox oy:Operand}{x y r:AV}{c d:Value}(hx:VR ι ψ x c)(hy:VR ι ψ y d)(h:Iz P op t ox oy x y=some r) :
  ∃ cv,(do eqGuard op t ox oy c d;binOp op t c d:Sem Value).run P w=.ok cv w∧VR ι ψ r cv:=by
 unfold Iz at h
 split at h
 ·next k a k' b =>
  obtain rfl:=hx.int_inv;obtain rfl:=hy.int_inv
  have hg:jx P op t ox oy (.int k a) (.int k' b) w:=iu χ χ
  split at h
  ·next hop =>
   obtain⟨cv,hr,hv⟩:=xf (P:=P) (w:=w) (ι:=ι) (ψ:=ψ) (k':=k') (t:=t) hop h
   exact⟨cv,by rw [co,hg];exact hr,hv⟩
  ·next hop =>
   split at h
   ·next hk =>
    subst hk
    obtain⟨cv,hr,hv⟩:=vV (P:=P) (w:=w) (ι:=ι) (ψ:=ψ) (t:=t) hop h
    exact⟨cv,by rw [co,hg];exact hr,hv⟩
   ·cases h
 ·next a b =>
  obtain rfl:=hx.str_inv;obtain rfl:=hy.str_inv
  have hg:jx P op t ox oy (.string ⟨a.toArray⟩) (.string ⟨b.toArray⟩) w:=iu χ χ
  obtain⟨cv,hr,hv⟩:=vg (P:=P) (w:=w) (ι:=ι) (ψ:=ψ) (t:=t) h
  exact⟨cv,by rw [co,hg];exact hr,hv⟩
 ·split at h
  ·cases he:((Ig P t ox oy x y).orElse fun _=>qP P t x y) with
   | none=>rw [he] at h;simp at h
   | some b =>
    rw [he] at h;simp at h;subst h
    obtain⟨hr,hg,hp⟩:=uM (P:=P) (w:=w) (op:=.eql) hx hy he
    refine⟨.bool b, ?_,.bool b⟩
    rw [co,hg,ro hp]
    simp [hr]
  ·cases he:((Ig P t ox oy x y).orElse fun _=>qP P t x y) with
   | none=>rw [he] at h;simp at h
   | some b =>
    rw [he] at h;simp at h;subst h
    obtain⟨hr,hg,hp⟩:=uM (P:=P) (w:=w) (op:=.neq) hx hy he
    refine⟨.bool (!b), ?_,.bool _⟩
    rw [co,hg,rn hp]
    simp [hr]
  ·cases h
def Nf(op:UnOp)(x:AV):Option AV :=
 match op,x with
 | .not,.bool b=>some (.bool (!b))
 | .neg,.int k n=>some (.int k (k.wrap (0 - n)))
 | .xor,.int k n=>nD .xor k (if k.signed then -1 else k.max) n
 | _,_=>none
theorem Bg{op:UnOp}{x r:AV}{c:Value}(hx:VR ι ψ x c)(h:Nf op x=some r):∃ cv,(Op.unary op c).run P w=.ok cv w∧VR ι ψ r cv:=by
 unfold Nf at h
 split at h
 ·obtain rfl:=hx.bool_inv
  simp at h;subst h
  exact⟨_,rfl,.bool _⟩
 ·obtain rfl:=hx.int_inv
  simp only [bl] at h;subst h
  exact⟨_,rfl,.int _ _⟩
 ·obtain rfl:=hx.int_inv
  simp [nD] at h;subst h
  exact⟨_,by rw [unary_xor];simp [Ft],.int _ _⟩
 ·cases h
def BU(P:Program)(e:TypeId):Bool :=
 match P.underlying e with
 | some (.int .u8)=>true
 | _=>false
theorem qm{e:TypeId}(h:BU P e=true):P.underlying e=some (.int .u8):=by
 unfold BU at h
 split at h
 ·assumption
 ·cases h
def gz:List AV→Option (List UInt8)
 | []=>some []
 | .int .u8 n::r=>(gz r).map (az n.toNat::·)
 | _=>none
def qi(P:Program)(T:TypeId)(n:Nat):Bool :=
 (match P.info? T with
 | some i=>i.size != 0
 | none=>false)&&liesAt P P.depth T (n / P.cellsOf T) 0 T 1&&decide (0<n)
def I5:List Value→Option (List UInt8)
 | []=>some []
 | .int .u8 n::r=>(I5 r).map (az n.toNat::·)
 | _=>none
def o4(c:Array Value)(n:Nat):Option (List UInt8):=if n≤c.size then I5 (c.toList.take n) else none
def tj(P:Program)(S:List aH)(src dst:TypeId)(x:AV):Option AV :=
 match P.underlying src,P.underlying dst,x with
 | some _,some (.int k),.int _ n=>some (.int k (k.wrap n))
 | some .string,some .string,.str s=>some (.str s)
 | some (.slice e),some .string,.sval _ els=>if BU P e then (gz els).map .str else none
 | some (.slice e),some .string,.snil=>if BU P e then some (.str []) else none
 | some (.slice e),some .string,.sown a g n=>if BU P e then (match S[a]? with
  | some (.arr _ 1 _ g' els)=>if g=g'∧n=els.length then (gz els).map .str else none
  | some (.obj (.cells c _ _))=>if g=0 then (o4 c n).map .str else none
  | _=>none) else none
 | some (.pointer t),some .unsafePointer,.own a 0=>match S[a]? with
  | some (.cells cs (some T))=>if t=T∧qi P T cs.length=true then some (.own a 0) else none
  | _=>none
 | some .unsafePointer,some (.pointer t),.own a 0=>match S[a]? with
  | some (.cells cs (some T))=>if t=T∧qi P T cs.length=true then some (.own a 0) else none
  | _=>none
 | _,_,_=>none
theorem j8:∀ (els:List AV) (s:List UInt8),gz els=some s→∃ ns:List Int,els=ns.map (AV.int .u8)∧s=ns.map (fun n=>az n.toNat)
 | [],s,h=>⟨[],rfl,by simp [gz] at h;exact h⟩
 | x::r,s,h=>by
  unfold gz at h
  split at h
  ·simp at *
  ·next n r' heq =>
   cases heq
   cases hr:gz r with
   | none=>simp [hr] at h
   | some s' =>
    simp [hr] at h;subst h
    obtain⟨ns,rfl,rfl⟩:=j8 r s' hr
    exact⟨n::ns,rfl,rfl⟩
  ·cases h
theorem xn:∀ (vs:List Value) (s:List UInt8),I5 vs=some s→∃ ns:List Int,vs=ns.map (eK .u8)∧s=ns.map (fun n=>az n.toNat)
 | [],s,h=>⟨[],rfl,by simp [I5] at h;exact h⟩
 | x::r,s,h=>by
  unfold I5 at h
  split at h
  ·next e=>cases e
  ·next n r' e =>
   cases e
   cases hr:I5 r with
   | none=>rw [hr] at h;cases h
   | some s' =>
    rw [hr] at h
    cases h
    obtain⟨ns,rfl,rfl⟩:=xn r s' hr
    exact⟨n::ns,rfl,rfl⟩
  ·cases h
theorem zx(ns:List Int)(b:ByteArray):ns.foldl (fun r n=>r.push (az n.toNat)) b=⟨b.data++(ns.map (fun n=>az n.toNat)).toArray⟩:=by
 induction ns generalizing b with
 | nil=>simp
 | cons n ns ih=>simp only [g9,ih];simp [ByteArray.push]
theorem qB{ad:Addr}(hsp:ad.spot=none){ns:List Int}{cap:Nat}(h:∀ (j:Nat) (n:Int),ns[j]? = some n→w.cell? ⟨ad.block,ad.off+j,none⟩=some (.int .u8 n)) :
  (Conv.bytesToString (.slice (some ad) ns.length cap)).run P w=.ok (.string ⟨(ns.map (fun n=>az n.toNat)).toArray⟩) w:=by
 obtain⟨b,o,sp⟩:=ad
 simp only at hsp h
 subst hsp
 have hl:=run_loadCells_list (P:=P) w ⟨b,o,none⟩ (ns.map (eK .u8)) (fun j v hv=>by
  simp only [aJ] at hv
  cases hn:ns[j]? with
  | none=>simp [hn] at hv
  | some n=>simp [hn] at hv;subst hv;rw [Addr.add_lit];exact h j n hn)
 rw [bi] at hl
 rw [run_bytesToString w ⟨b,o,none⟩ ns.length cap ns hl,zx]
 simp [jJ,eX]
 rfl
theorem ye(h:cO w0 ι ψ S w){src dst:TypeId}{x r:AV}{c:Value}(hx:VR ι ψ x c)(he:tj P S src dst x=some r):∃ cv,(convert src dst c).run P w=.ok cv w∧VR ι ψ r cv:=by
 unfold tj at he
 split at he
 ·next d k k' n hs hd =>
  obtain rfl:=hx.int_inv
  simp at he;subst he
  exact⟨_,by simp [convert,run_underlying hs,run_underlying hd,Conv.intToInt],.int _ _⟩
 ·next s hs hd =>
  have hx':=hx
  obtain rfl:=hx.str_inv
  simp at he;subst he
  exact⟨_,by simp [convert,run_underlying hs,run_underlying hd],hx'⟩
 ·next e full els hs hd =>
  split at he
  ·next hu =>
   have hu:=qm hu
   cases hb:gz els with
   | none=>simp [hb] at he
   | some s =>
    simp [hb] at he;subst he
    obtain⟨ns,rfl,rfl⟩:=j8 _ _ hb
    generalize hE:ns.map (AV.int .u8)=els at hx
    cases hx with
    | svnil =>
     have:ns=[]:=by simpa using hE
     subst this
     refine⟨_,by rw [run_convert_bytes_string w src dst e _ _ _ hs hu hd];simp [Conv.bytesToString];rfl, ?_⟩
     exact .str _ _ (by simp [jJ,eX];rfl)
    | sve _ ad cap hf =>
     have:ns=[]:=by simpa using hE
     subst this
     refine⟨_,by rw [run_convert_bytes_string w src dst e _ _ _ hs hu hd];simp [Conv.bytesToString];rfl, ?_⟩
     exact .str _ _ (by simp [jJ,eX];rfl)
    | sval sz _ _ b o cap cv hsz hcap hf h1 h2 =>
     subst hE
     have hs1:∀ (j:Nat) (n:Int),ns[j]? = some n→sz=1:=fun j n hn=>by have:=hsz j (.int .u8 n) (by simp [hn]);simpa [AV.cells] using this.symm
     refine⟨_, ?_,.str' _⟩
     rw [run_convert_bytes_string w src dst e _ _ _ hs hu hd]
     rw [show (bn (AV.int a6) ns).length=ns.length by simp]
     refine qB (ad:=⟨b,o,none⟩) rfl fun j n hn=>?_
     have g1:=h1 j (.int .u8 n) 0 (.int .u8 n) (by simp [hn]) rfl
     have g2:=h2 j (.int .u8 n) 0 (.int .u8 n) (by simp [hn]) rfl
     have:=h.psi _ _ _ g1.2
     rw [g2.int_inv,hs1 j n hn] at this
     simpa using this
  ·cases he
 ·next e hs hd =>
  split at he
  ·next hu =>
   have hu:=qm hu
   simp at he;subst he
   cases hx with
   | snil =>
    refine⟨_,by rw [run_convert_bytes_string w src dst e _ _ _ hs hu hd];simp [Conv.bytesToString];rfl, ?_⟩
    exact .str _ _ (by simp [jJ,eX];rfl)
  ·cases he
 ·next e a g n hs hd =>
  split at he
  ·next hu =>
   have hu:=qm hu
   split at he
   ·next e' fz g' els hS =>
    split at he
    ·next hg =>
     obtain⟨rfl,rfl⟩:=hg
     cases hb:gz els with
     | none=>simp [hb] at he
     | some s =>
      simp [hb] at he;subst he
      obtain⟨ns,rfl,rfl⟩:=j8 _ _ hb
      cases hx with
      | sown _ _ _ ad cap pl hpl hgl hs' =>
       obtain⟨⟨hgen,hpsz⟩,hsz,_,_,⟨xs,hown,hxs⟩,_⟩:=h.blk a _ pl hS hpl
       have hsv:=hs' hgen.symm
       rw [run_convert_bytes_string w src dst e _ _ _ hs hu hd]
       have hlen:(bn (AV.int a6) ns).length=ns.length:=χ
       rcases hown.2 with⟨hn,hn0⟩|⟨b,cap',cur,hv,hb',hgg,_⟩
       ·rw [hn] at hsv
        simp only [g8] at hsv
        obtain⟨rfl,h0,rfl⟩:=hsv
        have:ns=[]:=bW ω
        subst this
        refine⟨_,by simp [Conv.bytesToString];rfl, ?_⟩
        exact .str _ _ (by simp [jJ,eX];rfl)
       ·rw [hv] at hsv
        simp only [g8] at hsv
        obtain⟨rfl,_,rfl⟩:=hsv
        rw [hlen]
        refine⟨_,qB (ad:=⟨b,0,none⟩) rfl fun j n hn=>?_,.str' _⟩
        have hf:(ei (ns.map (AV.int .u8)))[j]? = some (.int .u8 n):=by
         have:=kA (els:=ns.map (AV.int .u8)) (sz:=1) (by simp [AV.cells]) (i:=j) (j:=0) (e:=.int .u8 n) (x:=.int .u8 n) (by simp [hn]) rfl
         simpa using this
        obtain⟨_,v,hv',hr,_⟩:=hxs j _ hf
        rw [hr.int_inv] at hv'
        have:=hown.cells (g:=b) (by rw [hv];rfl) j _ hv'
        rw [Addr.add_lit] at this
        exact this
    ·cases he
   ·next c e' fz hS =>
    split at he
    ·next hg =>
     subst hg
     unfold o4 at he
     split at he
     ·next hle =>
      cases hb:I5 (c.toList.take n) with
      | none=>simp [hb] at he
      | some s =>
       simp [hb] at he;subst he
       obtain⟨ns,hns,rfl⟩:=xn _ _ hb
       cases hx with
       | sown _ _ _ ad cap pl hpl hgl hs' =>
        obtain⟨h0,h1,hok,h3,h4⟩:=h.blk a _ pl hS hpl
        obtain⟨hg0,hs1,n',cap',hsv⟩:=hok rfl
        have hq:=hs' hg0.symm
        rw [hsv] at hq
        cases hq
        have hl:ns.length=n:=by
         have:=congrArg jI hns
         simp at this
         omega
        rw [run_convert_bytes_string w src dst e _ _ _ hs hu hd]
        have hbr:=qB (P:=P) (w:=w) (ad:=⟨pl.blk,0,none⟩) (cap:=cap) rfl (ns:=ns) (fun j m hm=>by
         have hj:=(af.1 hm).1
         have h5:(c.toList.take n)[j]? = some (.int .u8 m):=by rw [hns,aJ,hm];rfl
         rw [bc,if_pos ω,bu] at h5
         simp [qG,h1,h5])
        rw [hl] at hbr
        exact⟨_,hbr,.str' _⟩
     ·cases he
    ·cases he
   ·cases he
  ·cases he
 ·next t a hs hd =>
  split at he
  ·next cs T hS =>
   split at he
   ·next hc =>
    obtain⟨rfl,hl⟩:=hc
    simp at he;subst he
    have hx0:=hx
    cases hx with
    | own _ _ pl hpl =>
     obtain⟨h0,⟨c,T',h1,h2,h3⟩,h4,h5⟩:=h.blk a _ pl hS hpl
     obtain⟨c2,hc2⟩:=h5 t rfl
     rw [h1] at hc2;cases hc2
     unfold qi at hl
     simp only [aq,decide_eq_true_eq] at hl
     cases hi:P.info? t with
     | none=>rw [hi] at hl;simp at hl
     | some i =>
      rw [hi] at hl
      have hsh:w.shape? pl.blk=some (t,cs.length):=by simp [World.shape?,h1,h2]
      exact⟨_,Lib.run_to_unsafe w ⟨pl.blk,0,none⟩ hs hd hi (by simpa using hl.1.1) hsh hl.2,hx0⟩
   ·cases he
  ·cases he
 ·next t a hs hd =>
  split at he
  ·next cs T hS =>
   split at he
   ·next hc =>
    obtain⟨rfl,hl⟩:=hc
    simp at he;subst he
    have hx0:=hx
    cases hx with
    | own _ _ pl hpl =>
     obtain⟨h0,⟨c,T',h1,h2,h3⟩,h4,h5⟩:=h.blk a _ pl hS hpl
     obtain⟨c2,hc2⟩:=h5 t rfl
     rw [h1] at hc2;cases hc2
     unfold qi at hl
     simp only [aq,decide_eq_true_eq] at hl
     cases hi:P.info? t with
     | none=>rw [hi] at hl;simp at hl
     | some i =>
      rw [hi] at hl
      have hsh:w.shape? pl.blk=some (t,cs.length):=by simp [World.shape?,h1,h2]
      exact⟨_,Lib.run_from_unsafe w ⟨pl.blk,0,none⟩ hs hd hi hsh hl.1.2,hx0⟩
   ·cases he
  ·cases he
 ·cases he
def HQ(P:Program)(t:TypeId)(x:AV):Option AV :=
 match P.underlying t,x with
 | some .string,.str s=>some (.int .i64 s.length)
 | some (.array n _),_=>some (.int .i64 n)
 | some (.slice _),.snil=>some (.int .i64 0)
 | some (.slice _),.sval _ els=>some (.int .i64 els.length)
 | some (.slice _),.sown _ _ n=>some (.int .i64 n)
 | some (.map _ _),.mnil=>some (.int .i64 0)
 | some (.map _ _),.mval es=>some (.int .i64 es.length)
 | _,_=>none
theorem zn(h:cO w0 ι ψ S w){t ty:TypeId}{x r:AV}{c:Value}(hx:VR ι ψ x c)(he:HQ P t x=some r):∃ cv,(Builtin.len_ #[t] ty #[c]).run P w=.ok cv w∧VR ι ψ r cv:=by
 unfold HQ at he
 split at he
 ·next s hu =>
  obtain rfl:=hx.str_inv
  simp at he;subst he
  exact⟨_,by simp [Builtin.len_,run_underlying hu,goInt,nq],.int _ _⟩
 ·next n e hu =>
  simp at he;subst he
  exact⟨_,by simp [Builtin.len_,run_underlying hu,goInt],.int _ _⟩
 ·next e hu =>
  simp at he;subst he
  cases hx
  exact⟨_,by simp [Builtin.len_,run_underlying hu,goInt],.int _ _⟩
 ·next e f els hu =>
  simp at he;subst he
  obtain⟨a,cap,rfl,_⟩:=hx.sval_len
  exact⟨_,by simp [Builtin.len_,run_underlying hu,goInt],.int _ _⟩
 ·next e a g n hu =>
  simp at he;subst he
  cases hx
  exact⟨_,by simp [Builtin.len_,run_underlying hu,goInt],.int _ _⟩
 ·next k e hu =>
  simp at he;subst he
  cases hx
  exact⟨_,by simp [Builtin.len_,run_underlying hu,goInt],.int _ _⟩
 ·next k e es hu =>
  simp at he;subst he
  cases hx with
  | mval _ l b ck me hb hp hl hn h1 h2 =>
   obtain⟨hck,_⟩:=h.psim b me ck hb
   refine⟨.int .i64 me.size, ?_,by rw [← hp.length_eq,hl];exact .int _ _⟩
   simp [Builtin.len_,run_underlying hu,goInt,getObj,qH,hck]
 ·cases he
end Go.Fen
namespace Go.Fen
open Go.RowKit Go.MapKept
variable {P:Program}{w0 w w':World}{ι:List Pl}{ψ:eo}{S:List aH}
def kw(P:Program)(kt:TypeId)(k:AV):Bool :=
 match P.underlying kt,k with
 | some (.int j),.int j' _=>decide (j'=j)
 | some .string,.str _=>true
 | some .bool,.bool _=>true
 | _,_=>false
def eS(P:Program):List Field→Nat→List AV→Bool
 | [],_,[]=>true
 | f::fs,i,x::xs=>(f.name != "_")&&(decide (f.offset=i)&&(kw P f.type x&&(decide (ff P f.type=some 1)&&eS P fs (i+1) xs)))
 | _,_,_=>false
def fh(P:Program)(kt:TypeId)(k:AV):Bool:=kw P kt k||(match P.underlying kt,k with
 | some (.struct fs),.agg cs=>!P.stoodInHeld kt&&eS P fs.toList 0 cs
 | _,_=>false)
def tV(x y:AV):Bool :=
 match x,y with
 | .int _ a,.int _ b=>a==b
 | .str a,.str b=>a==b
 | .bool a,.bool b=>a==b
 | _,_=>false
def sI:List AV→List AV→Bool
 | [],[]=>true
 | x::xs,y::ys=>tV x y&&sI xs ys
 | _,_=>false
def kR(x y:AV):Bool :=
 match x,y with
 | .agg a,.agg b=>sI a b
 | x,y=>tV x y
theorem xL{kt:TypeId}{x y:AV}(hx:kw P kt x=true)(hy:kw P kt y=true):tV x y=true↔x=y:=by
 unfold kw at hx hy
 cases hu:P.underlying kt with
 | none=>simp [hu] at hx
 | some d =>
  simp only [hu] at hx hy
  cases d<;>cases x<;>simp at hx<;>cases y<;>simp at hy<;>simp_all [tV]
theorem xK:∀ {fs:List Field}{i:Nat}{a b:List AV},eS P fs i a=true→eS P fs i b=true→(sI a b=true↔a=b)
 | [],_,[],[],_,_=>by simp [sI]
 | [],_,_::_,_,h,_=>by simp [eS] at h
 | [],_,[],_::_,_,h=>by simp [eS] at h
 | f::fs,i,[],_,h,_=>by simp [eS] at h
 | f::fs,i,_::_,[],_,h=>by simp [eS] at h
 | f::fs,i,x::a,y::b,h,h'=>by
  simp only [eS,aq] at h h'
  simp only [sI,aq,xL h.2.2.1 h'.2.2.1,xK h.2.2.2.2 h'.2.2.2.2,mz]
theorem jh{kt:TypeId}{x:AV}(h:kw P kt x=true):kR x=tV x∧∀ fs,P.underlying kt≠some (.struct fs):=by
 unfold kw at h
 refine⟨?_,fun fs e=>?_⟩
 ·funext y
  cases hu:P.underlying kt with
  | none=>simp [hu] at h
  | some d=>simp only [hu] at h;cases d<;>cases x<;>simp at h<;>rfl
 ·rw [e] at h
  cases x<;>simp at h
theorem fg{kt:TypeId}{x:AV}(h:fh P kt x=true):kw P kt x=true∨∃ fs cs,P.underlying kt=some (.struct fs)∧x=.agg cs∧P.stoodInHeld kt=false∧eS P fs.toList 0 cs=true:=by
 unfold fh at h
 rw [ef] at h
 rcases h with h|h
 ·exact .inl h
 ·split at h
  ·next fs cs hu =>
   simp only [aq,ay] at h
   exact .inr ⟨fs,cs,hu,rfl,h.1,h.2⟩
  ·cases h
theorem jt{kt:TypeId}{x y:AV}(hx:fh P kt x=true)(hy:fh P kt y=true):kR x y=true↔x=y:=by
 rcases fg hx with h|⟨fs,cs,hu,rfl,_,h⟩
 ·obtain⟨e,hn⟩:=jh h
  rcases fg hy with h'|⟨fs,_,hu,_⟩
  ·rw [e];exact xL h h'
  ·exact absurd hu (hn fs)
 ·rcases fg hy with h'|⟨fs',cs',hu',rfl,_,h'⟩
  ·exact absurd hu ((jh h').2 fs)
  ·rw [hu] at hu';cases hu'
   show sI cs cs'=true↔_
   rw [xK h h'];simp
theorem kg{kt:TypeId}{d:TypeDesc}{x:AV}{c:Value}(hd:P.underlying kt=some d)(hx:kw P kt x=true)(h:VR ι ψ x c):IsKey d c:=by
 unfold kw at hx
 rw [hd] at hx
 cases d<;>cases x<;>simp at hx<;>cases h<;>simp_all [IsKey]
theorem uy{kt:TypeId}{x y:AV}{c e:Value}(hx:kw P kt x=true)(hy:kw P kt y=true)(h:VR ι ψ x c)(h':VR ι ψ y e):c=e↔x=y:=by
 unfold kw at hx hy
 cases hu:P.underlying kt with
 | none=>simp [hu] at hx
 | some d =>
  simp only [hu] at hx hy
  cases d<;>cases x<;>simp at hx<;>cases y<;>simp at hy
  ·rw [h.bool_inv,h'.bool_inv];simp
  ·rw [h.int_inv,h'.int_inv];simp
  ·rw [h.str_inv,h'.str_inv];simp
theorem ux:∀ {fs:List Field}{i:Nat}{a b:List AV}{u v:List Value},eS P fs i a=true→eS P fs i b=true→a.length=u.length→b.length=v.length →
  (∀ (j:Nat) (x:AV) (c:Value),a[j]? = some x→u[j]? = some c→VR ι ψ x c)→(∀ (j:Nat) (x:AV) (c:Value),b[j]? = some x→v[j]? = some c→VR ι ψ x c)→(u=v↔a=b)
 | [],_,[],[],u,v,_,_,h1,h2,_,_=>by
  have e1:u=[]:=bW h1.symm
  have e2:v=[]:=bW h2.symm
  simp [e1,e2]
 | [],_,_::_,_,_,_,h,_,_,_,_,_=>by simp [eS] at h
 | [],_,[],_::_,_,_,_,h,_,_,_,_=>by simp [eS] at h
 | f::fs,i,[],_,_,_,h,_,_,_,_,_=>by simp [eS] at h
 | f::fs,i,_::_,[],_,_,_,h,_,_,_,_=>by simp [eS] at h
 | f::fs,i,x::a,y::b,[],_,_,_,h,_,_,_=>by simp at h
 | f::fs,i,x::a,y::b,_::_,[],_,_,_,h,_,_=>by simp at h
 | f::fs,i,x::a,y::b,c::u,e::v,h,h',h1,h2,h3,h4=>by
  simp only [eS,aq] at h h'
  have q:=uy h.2.2.1 h'.2.2.1 (h3 0 x c rfl rfl) (h4 0 y e rfl rfl)
  have r:=ux h.2.2.2.2 h'.2.2.2.2 (by simpa using h1) (by simpa using h2) (fun j z w hz hw=>h3 (j+1) z w (by simpa using hz) (by simpa using hw)) (fun j z w hz hw=>h4 (j+1) z w (by simpa using hz) (by simpa using hw))
  simp only [mz,q,r]
theorem pi{kt:TypeId}{x y:AV}{c e:Value}(hx:fh P kt x=true)(hy:fh P kt y=true)(h:VR ι ψ x c)(h':VR ι ψ y e):c=e↔x=y:=by
 rcases fg hx with k|⟨fs,cs,hu,rfl,_,k⟩
 ·rcases fg hy with k'|⟨fs,_,hu,_⟩
  ·exact uy k k' h h'
  ·exact absurd hu ((jh k).2 fs)
 ·rcases fg hy with k'|⟨fs',cs',hu',rfl,_,k'⟩
  ·exact absurd hu ((jh k').2 fs)
  ·rw [hu] at hu';cases hu'
   cases h with
   | agg _ vs hl hv =>
    cases h' with
    | agg _ vs' hl' hv' =>
     have:=ux k k' (u:=vs.toList) (v:=vs'.toList) (by simpa using hl) (by simpa using hl') (fun j z w hz hw=>hv j z w hz (by simpa using hw)) (fun j z w hz hw=>hv' j z w hz (by simpa using hw))
     simp only [Value.agg.injEq,AV.agg.injEq,← this]
     exact⟨fun e=>by rw [e],fun e=>IV.1 e⟩
def AP(P:Program)(kt:TypeId)(k:AV)(es:List (AV × AV)):Option (Option AV) :=
 if (fh P kt k&&es.all fun e=>fh P kt e.1)=true then some ((es.find? fun e=>kR k e.1).map tD) else none
theorem xY:∀ {fs:List Field}{i:Nat}{a b pa pb:List AV},eS P fs i a=true→eS P fs i b=true→pa.length=i→pb.length=i→qZ (CA P 1) P (pa++a) (pb++b) fs=some (sI a b)
 | [],_,[],[],_,_,_,_,_,_=>rfl
 | [],_,_::_,_,_,_,h,_,_,_=>by simp [eS] at h
 | [],_,[],_::_,_,_,_,h,_,_=>by simp [eS] at h
 | f::fs,i,[],_,_,_,h,_,_,_=>by simp [eS] at h
 | f::fs,i,_::_,[],_,_,_,h,_,_=>by simp [eS] at h
 | f::fs,i,x::a,y::b,pa,pb,h,h',h1,h2=>by
  simp only [eS,aq,bne_iff_ne,ne_eq,decide_eq_true_eq] at h h'
  obtain⟨q1,q2,q3,q4,q5⟩:=h
  obtain⟨_,_,r3,_,r5⟩:=h'
  have hrc:=xY (pa:=pa++[x]) (pb:=pb++[y]) q5 r5 (by simp [h1]) (by simp [h2])
  simp only [aP,fQ,gu] at hrc
  have hag:mu P f.type=some false:=by
   unfold mu
   unfold kw at q3
   cases hu:P.underlying f.type with
   | none=>simp [hu] at q3
   | some d=>simp only [hu] at q3;cases d<;>cases x<;>simp at q3<;>rfl
  have hd1:(pa++x::a).drop f.offset=x::a:=by rw [q2,← h1];simp
  have hd2:(pb++y::b).drop f.offset=y::b:=by rw [q2,← h2];simp
  have he:CA P 1 f.type x y=some (tV x y):=by
   unfold kw at q3 r3
   simp only [CA]
   cases hu:P.underlying f.type with
   | none=>simp [hu] at q3
   | some d =>
    simp only [hu] at q3 r3
    cases d<;>cases x<;>simp at q3<;>cases y<;>simp at r3<;>simp_all [tV]
  simp only [qZ,q1,if_false,hag,q4,hd1,hd2,mg,aZ,List.head?_cons,he,hrc]
  rfl
theorem BT{kt:TypeId}{fs:Array Field}{a b:List AV}{c e:Value}(hu:P.underlying kt=some (.struct fs))(hst:P.stoodInHeld kt=false)(ha:eS P fs.toList 0 a=true)(hb:eS P fs.toList 0 b=true)(h:VR ι ψ (.agg a) c)(h':VR ι ψ (.agg b) e)(w:World):(mB kt c e).run P w=.ok (sI a b) w:=by
 have:=xY (pa:=[]) (pb:=[]) ha hb rfl rfl
 have he:CA P 2 kt (.agg a) (.agg b)=some (sI a b):=by
  simp only [CA,hu,hst,aZ,if_false]
  exact this
 exact qq 2 kt _ _ c e _ h h' he 9998 w
theorem xT{kt:TypeId}{k:AV}{c:Value}(hq:∀ (x:AV) (e:Value),fh P kt x=true→VR ι ψ x e→∀ w,(mB kt c e).run P w=.ok (kR k x) w):∀ (me:List MapEntry) (l:List (AV × AV)) (i:Nat),rq ι ψ l me→(∀ e∈l,fh P kt e.1=true) →
  ((∀ e∈l,kR k e.1=false)∧∀ w,(gq kt c me i).run P w=.ok none w)∨∃ j e m,l[j]? = some e∧me[j]? = some m∧kR k e.1=true∧∀ w,(gq kt c me i).run P w=.ok (some (i+j,m.val)) w
 | [],l,i,he,hl=>by
  have:l=[]:=bW he.1
  subst this
  exact .inl ⟨χ,fun w=>rfl⟩
 | m::me,[],i,he,_=>by have:=he.1;simp at this
 | m::me,e::l,i,he,hl=>by
  have h1:=(he.2 0 e m rfl rfl).1
  have hke:=hl e (dG ..)
  have hrun:=fun w=>hq e.1 m.key hke h1 w
  cases hb:kR k e.1 with
  | true =>
   refine .inr ⟨0,e,m,rfl,rfl,hb,fun w=>?_⟩
   simp [gq,hrun w,hb]
  | false =>
   have het:rq ι ψ l me:=⟨by have:=he.1;simpa using this,fun j x y hx hy=>he.2 (j+1) x y (by simpa using hx) (by simpa using hy)⟩
   rcases xT hq me l (i+1) het (fun x hx=>hl x (iv _ hx)) with⟨h2,h3⟩|⟨j,x,y,h2,h3,h4,h5⟩
   ·refine .inl ⟨fun x hx=>?_,fun w=>?_⟩
    ·rcases bD.1 hx with rfl|hx
     ·exact hb
     ·exact h2 x hx
    ·simp [gq,hrun w,hb,h3 w]
   ·refine .inr ⟨j+1,x,y,by simpa using h2,by simpa using h3,h4,fun w=>?_⟩
    simp [gq,hrun w,hb,h5 w]
    omega
theorem Ez{kt:TypeId}{k:AV}{c:Value}{l:List (AV × AV)}{me:List MapEntry}(hk:VR ι ψ k c)(he:rq ι ψ l me)(hkk:fh P kt k=true)(hall:∀ e∈l,fh P kt e.1=true) :
  ((∀ x∈me,x.key≠c)∧∀ w,(gQ kt c me).run P w=.ok none w)∨∃ j m,me[j]? = some m∧m.key=c∧∀ w,(gQ kt c me).run P w=.ok (some (j,m.val)) w:=by
 rcases fg hkk with hB|⟨fs,a,hu,rfl,hst,hfs⟩
 ·obtain⟨d,hd⟩:∃ d,P.underlying kt=some d:=by
   cases hq:P.underlying kt with
   | none=>unfold kw at hB;simp [hq] at hB
   | some d=>exact⟨d,rfl⟩
  have hkeys:∀ x∈me,IsKey d x.key:=by
   intro x hx
   obtain⟨j,hj⟩:=aV hx
   have hlt:j<l.length:=by rw [he.1];exact(af.1 hj).1
   rcases fg (hall _ (jL hlt)) with h|⟨fs,_,hu,_⟩
   ·exact kg hd h (he.2 j l[j] x (ap hlt) hj).1
   ·exact absurd hu ((jh hB).2 fs)
  rcases findNow_spec (kg hd hB hk) me 0 hkeys with⟨h1,h2⟩|⟨j,m,h1,h2,h3⟩
  ·exact .inl ⟨h2,fun w=>run_findKey hd h1⟩
  ·exact .inr ⟨j,m,h2,h3,fun w=>run_findKey hd (by simpa using h1)⟩
 ·have hq:∀ (x:AV) (e:Value),fh P kt x=true→VR ι ψ x e→∀ w,(mB kt c e).run P w=.ok (kR (.agg a) x) w:=by
   intro x e hx hxe w
   rcases fg hx with h'|⟨fs',b,hu',rfl,_,hfs'⟩
   ·exact absurd hu ((jh h').2 fs)
   ·rw [hu] at hu';cases hu'
    exact BT hu hst hfs hfs' hk hxe w
  have hkeyrun:∀ w,(gQ kt c me).run P w=(gq kt c me 0).run P w:=by
   intro w
   cases me with
   | nil=>simp [gQ,run_underlying hu,Jn,gq]
   | cons m me=>simp [gQ,run_underlying hu,Jn,Instr.sameNow]
  rcases xT hq me l 0 he hall with⟨h1,h2⟩|⟨j,e,m,h1,h2,h3,h4⟩
  ·refine .inl ⟨fun x hx hxc=>?_,fun w=>(hkeyrun w).trans (h2 w)⟩
   obtain⟨j,hj⟩:=aV hx
   have hlt:j<l.length:=by rw [he.1];exact(af.1 hj).1
   have hm:=jL hlt
   have hv:=(he.2 j l[j] x (ap hlt) hj).1
   have h5:=(pi (hall _ hm) hkk hv hk).1 hxc
   have h6:=h1 _ hm
   rw [(jt hkk (hall _ hm)).2 h5.symm] at h6
   cases h6
  ·have hm:=ax h1
   have hv:=(he.2 j e m h1 h2).1
   refine .inr ⟨j,m,h2,(pi (hall _ hm) hkk hv hk).2 ((jt hkk (hall _ hm)).1 h3).symm,fun w=>(hkeyrun w).trans (by simpa using h4 w)⟩
theorem qo{kt:TypeId}{k:AV}{c:Value}{es l:List (AV × AV)}{me:List MapEntry}(hk:VR ι ψ k c)(hp:l.Perm es)(hn:(es.map cP).Nodup)
  (he:rq ι ψ l me) (hkk:fh P kt k=true) (hall:∀ e∈es,fh P kt e.1=true) :
  (es.find? (fun e=>kR k e.1)=none∧∀ w,(gQ kt c me).run P w=.ok none w) ∨
  ∃ j e m,es.find? (fun e=>kR k e.1)=some e∧l[j]? = some e∧me[j]? = some m∧m.key=c∧e.1=k∧∀ w,(gQ kt c me).run P w=.ok (some (j,m.val)) w:=by
 rcases Ez hk he hkk (fun e hem=>hall e (hp.mem_iff.1 hem)) with⟨h2,h1⟩|⟨j,m,h2,h3,h1⟩
 ·refine .inl ⟨?_,h1⟩
  rw [kl]
  intro e hem hq
  have e1:=(jt hkk (hall e hem)).1 hq
  obtain⟨j,hj⟩:=aV (hp.mem_iff.2 hem)
  have hlt:j<me.length:=by rw [← he.1];exact(af.1 hj).1
  have hv:=(he.2 j e me[j] hj (ap hlt)).1
  exact h2 me[j] (jL hlt) ((pi (hall e hem) hkk hv hk).2 e1.symm)
 ·have hlt:j<l.length:=by rw [he.1];exact(af.1 h2).1
  have hl:l[j]? = some l[j]:=ap hlt
  have hmem:l[j]∈es:=hp.mem_iff.1 (jL hlt)
  have hv:=he.2 j l[j] m hl h2
  have hke:l[j].1=k:=(pi (hall _ hmem) hkk hv.1 hk).1 h3
  refine .inr ⟨j,l[j],m, ?_,hl,h2,h3,hke,h1⟩
  cases hf:es.find? (fun e=>kR k e.1) with
  | none =>
   rw [kl] at hf
   exact absurd ((jt hkk (hall _ hmem)).2 hke.symm) (hf _ hmem)
  | some e' =>
   have h4:=List.find?_some hf
   have h5:=oJ hf
   have h6:=(jt hkk (hall e' h5)).1 h4
   congr 1
   obtain⟨a,ha⟩:=aV h5
   obtain⟨b,hb⟩:=aV hmem
   have hab:a=b:=by
    have hal:a<(es.map cP).length:=by simpa using (af.1 ha).1
    refine(List.getElem?_inj hal hn).1 ?_
    simp only [aJ,ha,hb,dp]
    rw [← h6,hke]
   subst hab
   rw [ha] at hb;cases hb;rfl
theorem sH{kt:TypeId}{x:AV}(h:kw P kt x=true):mu P kt=some false∧∃ d,P.underlying kt=some d:=by
 unfold mu
 unfold kw at h
 cases hu:P.underlying kt with
 | none=>simp [hu] at h
 | some d =>
  simp only [hu] at h
  refine⟨?_,d,rfl⟩
  cases d<;>cases x<;>simp at h<;>rfl
theorem yj(e:Bool)(w:World){A:List AV}{vs:Array Value}(hl:A.length=vs.size)(hv:∀ (j:Nat) (x:AV),A[j]? = some x→∃ v,vs[j]? = some v∧VR ι ψ x v):∀ (fs:List Field) (i:Nat),eS P fs i (A.drop i)=true →
  (forIn (m:=Sem) fs PUnit.unit fun f (_:PUnit)=>if f.name ≠ "_" then do
    let x ← part f.type vs f.offset
    lB e 9999 f.type x
    pure (ForInStep.yield PUnit.unit)
   else pure (ForInStep.yield PUnit.unit)).run P w=.ok PUnit.unit w
 | [],_,_=>rfl
 | f::fs,i,h=>by
  cases hd:A.drop i with
  | nil=>rw [hd] at h;simp [eS] at h
  | cons x xs =>
   rw [hd] at h
   simp only [eS,aq,bne_iff_ne,ne_eq,decide_eq_true_eq] at h
   obtain⟨q1,q2,q3,q4,q5⟩:=h
   have hxs:A.drop (i+1)=xs:=by rw [← List.drop_drop,hd];rfl
   have ih:=yj e w hl hv fs (i+1) (by rw [hxs];exact q5)
   obtain⟨hag,d,hud⟩:=sH q3
   obtain⟨cv,hr,hvr⟩:=ks (P:=P) (w:=w) hag q4 hl hv f.offset (y:=x) (by rw [q2,hd];rfl)
   have hck:(lB e 9999 f.type cv).run P w=.ok () w:=run_checkKey hud (kg hud q3 hvr) e 9998
   rw [List.forIn_cons]
   simp only [ne_eq,q1,not_false_eq_true,if_true]
   simp [hr,hck,IK]
   simpa using ih
theorem ql{kt:TypeId}{x:AV}{c:Value}(hx:fh P kt x=true)(h:VR ι ψ x c)(e:Bool)(w:World):(lB e 10000 kt c).run P w=.ok () w:=by
 rcases fg hx with hB|⟨fs,a,hu,rfl,hst,hfs⟩
 ·obtain⟨d,hd⟩:∃ d,P.underlying kt=some d:=by
   cases hq:P.underlying kt with
   | none=>unfold kw at hB;simp [hq] at hB
   | some d=>exact⟨d,rfl⟩
  exact run_checkKey hd (kg hd hB h) e 9999
 ·cases h with
  | agg _ vs hl hv =>
   unfold lB
   simp only [co,run_underlying hu,IK]
   have:=yj (P:=P) e w hl (fun j x hx=>by
    have hj:j<vs.size:=by rw [← hl];exact(af.1 hx).1
    exact⟨vs[j],by simp [hj],hv j x _ hx (by simp [hj])⟩) fs.toList 0 hfs
   rw [Array.forIn_toList] at this
   rw [this];rfl
theorem uz:∀ {fs:List Field}{i:Nat}{a:List AV},eS P fs i a=true→∀ x∈a,∃ T,kw P T x=true
 | [],_,[],_,x,hx=>by cases hx
 | [],_,_::_,h,_,_=>by simp [eS] at h
 | _::_,_,[],_,x,hx=>by cases hx
 | f::fs,i,y::a,h,x,hx=>by
  simp only [eS,aq] at h
  rcases bD.1 hx with rfl|hx
  ·exact⟨_,h.2.2.1⟩
  ·exact uz h.2.2.2.2 x hx
theorem uw{kt:TypeId}{x:AV}{c:Value}(hx:fh P kt x=true)(h:VR ι ψ x c)(w:World):(IR c c).run P w=.ok c w:=by
 rcases fg hx with hB|⟨fs,a,hu,rfl,hst,hfs⟩
 ·obtain⟨_,d,hd⟩:=sH hB
  exact run_keyThatStays (kg hd hB h)
 ·cases h with
  | agg _ vs hl hv =>
   have hs:nT 10000 (.agg vs) (.agg vs)=true:=by
    show nT (9999+1) (.agg vs) (.agg vs)=true
    simp only [nT,beq_self_eq_true,bP,aD]
    intro p hp
    obtain⟨j,hj⟩:=aV hp
    rw [List.getElem?_zip_eq_some] at hj
    obtain⟨h1,h2⟩:=hj
    have e:p.1=p.2:=by rw [h1] at h2;exact bg h2
    have hlt:j<a.length:=by rw [hl];have:=(af.1 h1).1;simpa using this
    obtain⟨T,hT⟩:=uz hfs a[j] (jL hlt)
    obtain⟨_,d,hd⟩:=sH hT
    have hvr:=hv j a[j] p.1 (ap hlt) (by simpa using h1)
    show nT 9999 p.1 p.2=true
    rw [← e]
    exact sameBits_self (kg hd hT hvr) 9999
   simp [IR,hs]
def lg(P:Program)(t:TypeId):Option AV:=((P.info? t).bind (·.zero)).map Fm
theorem jz{t:TypeId}{z:AV}(h:lg P t=some z):∃ v,(zeroValue t).run P w=.ok v w∧VR ι ψ z v:=by
 unfold lg at h
 cases hi:P.info? t with
 | none=>simp [hi] at h
 | some i =>
  cases hz:i.zero with
  | none=>simp [hi,hz] at h
  | some v =>
   simp [hi,hz] at h;subst h
   exact⟨v,by simp [zeroValue,typeInfo,hi,hz],wx v⟩
def m3(S:List aH):AV→Option (List (AV × AV))
 | .mnil=>some []
 | .mval es=>some es
 | .mown a=>match S[a]? with
  | some (.mp _ es)=>some es
  | _=>none
 | _=>none
theorem zB(h:cO w0 ι ψ S w){x:AV}{c:Value}{es:List (AV × AV)}(hx:VR ι ψ x c)(he:m3 S x=some es) :
  ∃ (me:Array MapEntry) (l:List (AV × AV)),(es.map cP).Nodup∧l.Perm es∧rq ι ψ l me.toList∧((c=.map none∧me=#[])∨∃ r ck,c=.map (some r)∧w.heap[r]? = some (.map me ck)∧A5 me ck):=by
 cases hx with
 | mnil=>simp [m3] at he;subst he;exact⟨#[],[],χ,.refl _,⟨rfl,χ⟩,.inl ⟨rfl,rfl⟩⟩
 | mval es' l b ck me hb hp hl hn h1 h2 =>
  simp [m3] at he;subst he
  obtain⟨hck,hok⟩:=h.psim b me ck hb
  exact⟨me,l,hn,hp,⟨by simpa using hl,fun i e m hi hm=>⟨h1 i e m hi (by simpa using hm),h2 i e m hi (by simpa using hm)⟩⟩,.inr ⟨b,ck,rfl,hck,hok⟩⟩
 | mown a pl hpl =>
  simp only [m3] at he
  split at he
  ·next fz es' hS =>
   simp at he;subst he
   obtain⟨h0,hn,⟨me,ck,l,h1,h2,h3,h4,h5⟩,h6⟩:=h.blk a _ pl hS hpl
   exact⟨me,l,hn,h3,h4,.inr ⟨pl.blk,ck,rfl,h1,h2⟩⟩
  ·cases he
 | _=>simp [m3] at he
def js(P:Program)(S:List aH)(t:TypeId)(x k:AV)(ok:Bool):Option AV :=
 match P.underlying t,m3 S x with
 | some (.map kt et),some es=>match AP P kt k es,lg P et with
  | some r,some z=>some (if ok then .tup [r.getD z,.bool r.isSome] else r.getD z)
  | _,_=>none
 | _,_=>none
theorem tU(h:cO w0 ι ψ S w){t:TypeId}{x k y:AV}{c d:Value}{ok:Bool}(hx:VR ι ψ x c)(hk:VR ι ψ k d)(he:js P S t x k ok=some y) :
  ∃ cv,(qM t c d ok).run P w=.ok cv w∧VR ι ψ y cv:=by
 unfold js at he
 split at he
 ·next kt et es hu hes =>
  split at he
  ·next r z hr hz =>
   simp only [bl] at he
   subst he
   unfold AP at hr
   split at hr
   ·next hc =>
    simp only [aq,aD] at hc
    simp only [bl] at hr
    subst hr
    obtain⟨me,l,hn,hp,hent,hcase⟩:=zB h hx hes
    obtain⟨zv,hzr,hzv⟩:=jz (P:=P) (w:=w) (ι:=ι) (ψ:=ψ) hz
    have hck:∀ e,(lB e 10000 kt d).run P w=.ok () w:=fun e=>ql hc.1 hk e w
    have tup2:∀ {a:AV}{v:Value}{b:Bool},VR ι ψ a v→VR ι ψ (if ok then .tup [a,.bool b] else a) (if ok then .tuple #[v,.bool b] else v):=fun {a v b} h=>by
     cases ok
     ·exact h
     ·exact .tup _ _ rfl fun j x v hx hv=>by
       match j with
       | 0=>simp at hx hv;subst hx;subst hv;exact h
       | 1=>simp at hx hv;subst hx;subst hv;exact .bool _
       | j+2=>simp at hx
    rcases qo (P:=P) hk hp hn hent hc.1 hc.2 with⟨e1,e2⟩|⟨j,e,m,e1,e2,e3,e4,e5,e6⟩
    ·rw [e1]
     refine⟨_, ?_,tup2 (b:=false) hzv⟩
     rcases hcase with⟨rfl,rfl⟩|⟨r,ck,rfl,hm,_⟩
     ·have hf:(gQ kt d []).run P w=.ok none w:=e2 w
      simp [qM,run_underlying hu,hck,hf,hzr]
     ·have hf:=e2 w
      simp [qM,run_underlying hu,cz hm,hck,hf,hzr]
    ·rw [e1]
     refine⟨_, ?_,tup2 (b:=true) (hent.2 j e m e2 e3).2⟩
     rcases hcase with⟨rfl,rfl⟩|⟨r,ck,rfl,hm,_⟩
     ·simp at e3
     ·have hf:=e6 w
      simp [qM,run_underlying hu,cz hm,hck,hf]
   ·cases hr
  ·cases he
 ·cases he
def pj:TypeDesc→Bool
 | .interface _=>true
 | _=>false
def rJ(P:Program)(x:AV)(t:TypeId)(ok:Bool):Option AV :=
 match P.underlying t with
 | some d=>if pj d then none else
  match x,ok with
  | .ifc u v,ok=>if u=t then some (if ok then .tup [v,.bool true] else v) else (if ok then (lg P t).map (fun z=>.tup [z,.bool false]) else none)
  | .inil,true=>(lg P t).map (fun z=>.tup [z,.bool false])
  | _,_=>none
 | none=>none
theorem t6{x y:AV}{c:Value}{t xt:TypeId}{ok:Bool}(hx:VR ι ψ x c)(he:rJ P x t ok=some y):∃ cv,(l9 c xt t ok).run P w=.ok cv w∧VR ι ψ y cv:=by
 have tup2:∀ {a:AV}{v:Value}{b:Bool},VR ι ψ a v→VR ι ψ (.tup [a,.bool b]) (.tuple #[v,.bool b]):=fun {a v b} h=>.tup _ _ rfl fun j x v hx hv=>by
  match j with
  | 0=>simp at hx hv;subst hx;subst hv;exact h
  | 1=>simp at hx hv;subst hx;subst hv;exact .bool _
  | j+2=>simp at hx
 unfold rJ at he
 split at he
 ·next d hu =>
  split at he
  ·cases he
  ·next hi =>
   split at he
   ·next u v =>
    cases hx with
    | ifc _ _ c hc =>
     by_cases hut:u=t
     ·subst hut
      simp at he;subst he
      refine⟨if ok then .tuple #[c,.bool true] else c, ?_, ?_⟩
      ·cases d<;>simp [pj] at hi<;>simp [l9,run_underlying hu]
      ·cases ok
       ·exact hc
       ·exact tup2 hc
     ·rw [if_neg hut] at he
      cases ok
      ·simp at he
      ·simp only [if_true,aL] at he
       obtain⟨z,hz,rfl⟩:=he
       obtain⟨zv,hzr,hzv⟩:=jz (P:=P) (w:=w) (ι:=ι) (ψ:=ψ) hz
       refine⟨_, ?_,tup2 hzv⟩
       cases d<;>simp [pj] at hi<;>simp [l9,run_underlying hu,hut,hzr]
   ·simp only [aL] at he
    obtain⟨z,hz,rfl⟩:=he
    obtain⟨zv,hzr,hzv⟩:=jz (P:=P) (w:=w) (ι:=ι) (ψ:=ψ) hz
    cases hx
    refine⟨_, ?_,tup2 hzv⟩
    cases d<;>simp [pj] at hi<;>simp [l9,run_underlying hu,hzr]
   ·cases he
 ·cases he
def sR(S:List aH)(x:AV):Option AV :=
 match x with
 | .own a 0=>match S[a]? with
  | some (.mit (some e) _)=>some (.tup [e.1,e.2])
  | _=>none
 | _=>none
theorem wi(h:cO w0 ι ψ S w){x y:AV}{c:Value}(hx:VR ι ψ x c)(he:sR S x=some y):∃ cv,(Instr.entry c).run P w=.ok cv w∧VR ι ψ y cv:=by
 unfold sR at he
 split at he
 ·next a =>
  split at he
  ·next e rest hS =>
   simp at he;subst he
   cases hx with
   | own _ _ pl hpl =>
    obtain⟨h0,h1,_⟩:=h.blk a _ pl hS hpl
    rcases h1 with⟨_,_,h1⟩|⟨mb,ck,me,seen,l,k1,k2,k4,k5,k6⟩
    ·cases h1
    ·obtain⟨b,m,q1,q2,q3,q4⟩:=k6 e rfl
     obtain⟨hc,_⟩:=h.psim mb me ck k2
     refine⟨.tuple #[m.key,m.val],by simp [Instr.entry,getObj,qH,k1,q1,hc,q2],.tup _ _ rfl fun j x v hx hv=>?_⟩
     match j with
     | 0=>simp at hx hv;subst hx;subst hv;exact q3
     | 1=>simp at hx hv;subst hx;subst hv;exact q4
     | j+2=>simp at hx
  ·cases he
 ·cases he
def xI(S:List aH)(P:Program)(t:TypeId)(x:AV):Option AV :=
 match P.underlying t,x with
 | some (.map _ _),.mown a=>match S[a]? with
  | some (.mp _ es)=>some (.int .i64 es.length)
  | _=>none
 | _,_=>none
theorem zm(h:cO w0 ι ψ S w){t ty:TypeId}{x r:AV}{c:Value}(hx:VR ι ψ x c)(he:xI S P t x=some r):∃ cv,(Builtin.len_ #[t] ty #[c]).run P w=.ok cv w∧VR ι ψ r cv:=by
 unfold xI at he
 split at he
 ·next kt et a hu =>
  split at he
  ·next fz es hS =>
   simp at he;subst he
   cases hx with
   | mown _ pl hpl =>
    obtain⟨h0,hn,⟨me,ck,l,h1,h2,h3,h4,h5⟩,h6⟩:=h.blk a _ pl hS hpl
    refine⟨.int .i64 me.size,by simp [Builtin.len_,run_underlying hu,goInt,getObj,qH,h1], ?_⟩
    have:es.length=me.size:=by rw [← h3.length_eq,h4.1];simp
    rw [this];exact .int _ _
  ·cases he
 ·cases he
end Go.Fen
