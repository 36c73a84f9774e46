/- YthdbijpefkapnaaGreatDoorCore0. Texts of the proof of a law about texts: a layer of abstract values above the worlds, the types, the walks of the functions that the law reaches, the law and its card. Own work of an AI agent. -/
import Derived.WalkKit
import Derived.RangeFuncOwn
import Derived.RangeFuncLeaves
import Derived.WalkSpells
import Derived.WalkLawsBesides
import Derived.Laws.BytesString
import Derived.Lib.Builder
import Derived.MapKept
import Derived.Lib.UnsafeStr
import Derived.Deep.AppendSrc
import Derived.RangeFuncRecord
set_option linter.all false
set_option linter.unusedVariables false
set_option linter.unusedSimpArgs false
open Array renaming getD → jf, getD_eq_getD_getElem? → ay, getElem?_append_left → fq, getElem?_eq_some_iff → bO, getElem?_map → je, getElem?_modify → gR, getElem?_setIfInBounds_ne → ol, getElem?_toList → a7, length_toList → c_, mapM_eq_mapM_toList → jw, size_append → yb, toArray_toList → cg, toList_inj → Cp, toList_push → ya
open BitVec renaming ofInt → ai
open Bool renaming and_eq_true → aj, false_eq_true → bJ, not_eq_true' → az, or_eq_true → ef, true_and → lX
open ByteArray renaming empty → jz, emptyWithCapacity → eS
open Go.ByteArray renaming size_mk' → ie
open Go.Instr renaming build → vM, buildSlice → jU, checkKey → gn, fieldAt → CL, findAsking → eF, findKey → fb, findNow → CK, index → vL, indexAt → l4, keyThatStays → mN, loadAt → kX, lookup → ni, makeMap → l0, makeSlice → ki, mapUpdate → pI, range → jj, sameBits → ln, slice → vK, sliceAt → fe, sliceBound → Cm, sliceBounds → dD, storeAt → lZ, sureAddr → cQ, typeAssert → jT
open Go.IntKind renaming i64 → af, u8 → aW
open Go.IntWalk renaming i64_in → au
open Go.MapKept renaming run_getObj_map → dC
open Go.Op renaming bytesLess → od, equal → kh, equalIn → eC, intBits → An
open Go.Result renaming andThen → Cf, andThen_ok → bB
open Go.RowKit.Below renaming heap_alloc → Ah, refl → lq
open Go.Sem renaming run → kg, run_bind → bu, run_map → Ce, run_pure → eD
open Go.Value renaming int → dn, oneCell' → ul, ownBlock → bR
open Go.Value.slice renaming injEq → fo
open Go.World renaming alloc_heap_new → ic, block_lt_of_cell? → eO, cell? → jx, cell?_of_block → lk, freeze → uk, ownsRow_nil → xZ, putObj_heap_same → dK, setRow → uj, shape? → ui
open List renaming all_cons → lg, all_eq_true → aq, append_assoc → aK, cons_append → cz, eq_nil_of_length_eq_zero → bo, find?_eq_none → i7, foldl_cons → ee, getElem?_append_left → ap, getElem?_append_right → aw, getElem?_drop → bQ, getElem?_eq_getElem → al, getElem?_eq_none → bz, getElem?_eq_some_iff → ab, getElem?_inj → pG, getElem?_map → aF, getElem?_of_mem → aQ, getElem?_set_ne → bl, getElem?_take → aV, getElem?_toArray → cS, getElem_mem → g7, length → dM, length_append → ah, length_cons → aI, length_drop → kV, length_map → aY, length_nil → aU, length_take → oe, map → bE, map_append → bg, map_cons → aA, map_map → Ag, mem_append → bv, mem_cons → bA, mem_cons_of_mem → fa, mem_cons_self → cV, mem_map → aH, mem_map_of_mem → b_, mem_of_find?_eq_some → gw, mem_of_getElem? → ar, mem_singleton → aZ, nil_append → cU, nodup_append → gZ, range → bC, range' → un, replicate → bp, replicate_succ → gk, size_toArray → eR, take → lm, take_left → kU
open List.cons renaming injEq → iI
open Nat renaming add_assoc → qK, add_mul → eE, add_zero → kf, div_add_mod' → Ch, le_mul_of_pos_right → ke, le_refl → aP, le_trans → dB, lt_of_lt_of_le → jS, lt_of_not_le → sm, mod_eq_of_lt → iG, mod_eq_sub_mod → Ae, mod_lt → gj, mul_le_mul_right → bT, succ_mul → fC, zero_add → di, zero_le → bx
open Option renaming bind_some → Cg, map_eq_some_iff → aJ, map_some → cu
open Option.some renaming inj → bi, injEq → a8
open Prod renaming fst → bZ, snd → lz
open Prod.mk renaming injEq → lA
open UInt8 renaming ofNat → aD
namespace Go.Fen
open Go.RowKit
inductive AV where
 | int (k:IntKind) (n:Int)
 | bool (b:Bool)
 | str (s:List UInt8)
 | nilp
 | own (a off:Nat)
 | oel (a g i off:Nat)
 | pro (cs:List AV)
 | snil
 | sval (full:Bool) (els:List AV)
 | sown (a g n:Nat)
 | mnil
 | mown (a:Nat)
 | mval (es:List (AV × AV))
 | fn (f:Fn) (first cap:List AV)
 | fnil
 | yld (a:Nat)
 | ifc (t:TypeId) (v:AV)
 | inil
 | agg (cs:List AV)
 | tup (vs:List AV)
 | dfr (l:List AV)
 | val (v:Value)
 | junk
 deriving Inhabited
def AV.cells:AV→List AV
 | .agg cs=>cs
 | v=>[v]
def AV.leaf:AV→Bool
 | .agg _ | .tup _ | .junk | .dfr _=>false
 | _=>true
structure Pl where
 blk:Nat
 gen:Nat
 sv:Value
 sz:Nat
structure cX where
 c:Nat→Nat→Option Value
 m:Nat→Option (Array MapEntry × Nat)
def cX.le (p q:cX):Prop:=(∀ b o v,p.c b o=some v→q.c b o=some v)∧(∀ b e,p.m b=some e→q.m b=some e)
inductive VR (ι:List Pl) (ψ:cX):AV→Value→Prop
 | int (k n):VR ι ψ (.int k n) (.int k n)
 | bool (b):VR ι ψ (.bool b) (.bool b)
 | str (s:List UInt8) (b:ByteArray) (h:b.data.toList=s):VR ι ψ (.str s) (.string b)
 | nilp:VR ι ψ .nilp (.pointer none)
 | own (a off:Nat) (pl:Pl) (h:ι[a]? = some pl):VR ι ψ (.own a off) (.pointer (some ⟨pl.blk,off,none⟩))
 | oel (a g i off:Nat) (ad:Addr) (pl:Pl) (h:ι[a]? = some pl) (hg:g≤pl.gen) (hs:g=pl.gen→∃ b,pl.sv.ownBlock=some b∧ad=⟨b,i * pl.sz+off,none⟩):VR ι ψ (.oel a g i off) (.pointer (some ad))
 | pro (cs : List AV) (b o : Nat) (cv : Nat → Value) (h1 : ∀ j x, cs[j]? = some x → x.leaf = true ∧ ψ.c b (o + j) = some (cv j)) (h2 : ∀ j x, cs[j]? = some x → VR ι ψ x (cv j)) :
   VR ι ψ (.pro cs) (.pointer (some ⟨b,o,none⟩))
 | snil:VR ι ψ .snil (.slice none 0 0)
 | svnil (full:Bool):VR ι ψ (.sval full []) (.slice none 0 0)
 | sval (sz : Nat) (full : Bool) (els : List AV) (b o cap : Nat) (cv : Nat → Nat → Value) (hsz : ∀ (i : Nat) (e : AV), els[i]? = some e → e.cells.length = sz) (hcap : els.length ≤ cap) (hf : full = true → cap = els.length)
   (h1:∀ (i:Nat) (e:AV) (j:Nat) (x:AV),els[i]? = some e→e.cells[j]? = some x→x.leaf=true∧ψ.c b (o+i * sz+j)=some (cv i j))
   (h2:∀ (i:Nat) (e:AV) (j:Nat) (x:AV),els[i]? = some e→e.cells[j]? = some x→VR ι ψ x (cv i j)):VR ι ψ (.sval full els) (.slice (some ⟨b,o,none⟩) els.length cap)
 | sown (a g n:Nat) (ad:Option Addr) (cap:Nat) (pl:Pl) (h:ι[a]? = some pl) (hg:g≤pl.gen) (hs:g=pl.gen→Value.slice ad n cap=pl.sv):VR ι ψ (.sown a g n) (.slice ad n cap)
 | mnil:VR ι ψ .mnil (.map none)
 | mown (a:Nat) (pl:Pl) (h:ι[a]? = some pl):VR ι ψ (.mown a) (.map (some pl.blk))
 | mval (es l : List (AV × AV)) (b ck : Nat) (me : Array MapEntry) (hb : ψ.m b = some (me, ck)) (hp : l.Perm es) (hl : l.length = me.size) (hn : (es.map bZ).Nodup)
   (h1:∀ (i:Nat) (e:AV × AV) (m:MapEntry),l[i]? = some e→me[i]? = some m→VR ι ψ e.1 m.key) (h2:∀ (i:Nat) (e:AV × AV) (m:MapEntry),l[i]? = some e→me[i]? = some m→VR ι ψ e.2 m.val):VR ι ψ (.mval es) (.map (some b))
 | fn (f : Fn) (first cap : List AV) (vf vc : Array Value) (hl1 : first.length = vf.size) (hl2 : cap.length = vc.size)
   (h1:∀ (j:Nat) (x:AV) (v:Value),first[j]? = some x→vf[j]? = some v→VR ι ψ x v) (h2:∀ (j:Nat) (x:AV) (v:Value),cap[j]? = some x→vc[j]? = some v→VR ι ψ x v):VR ι ψ (.fn f first cap) (.func f vf vc)
 | fnil:VR ι ψ .fnil .nilFunc
 | yld (a:Nat) (pl:Pl) (h:ι[a]? = some pl):VR ι ψ (.yld a) (.func (.yield pl.blk) #[] #[])
 | ifc (t:TypeId) (x:AV) (v:Value) (h:VR ι ψ x v):VR ι ψ (.ifc t x) (.iface t v)
 | inil:VR ι ψ .inil .nilIface
 | agg (cs:List AV) (vs:Array Value) (hl:cs.length=vs.size) (h:∀ (j:Nat) (x:AV) (v:Value),cs[j]? = some x→vs[j]? = some v→VR ι ψ x v):VR ι ψ (.agg cs) (.agg vs)
 | tup (cs:List AV) (vs:Array Value) (hl:cs.length=vs.size) (h:∀ (j:Nat) (x:AV) (v:Value),cs[j]? = some x→vs[j]? = some v→VR ι ψ x v):VR ι ψ (.tup cs) (.tuple vs)
 | dfr (cs:List AV) (vs:List Value) (hl:cs.length=vs.length) (h:∀ (j:Nat) (x:AV) (v:Value),cs[j]? = some x→vs[j]? = some v→VR ι ψ x v):VR ι ψ (.dfr cs) undef
 | val (v:Value) (h:v.oneCell'=true):VR ι ψ (.val v) v
 | junk (v:Value):VR ι ψ .junk v
structure cN (ι:List Pl) (ψ:cX) (ι':List Pl) (ψ':cX):Prop where
 pl:∀ (i:Nat) (p:Pl),ι[i]? = some p→∃ p':Pl,ι'[i]? = some p'∧p'.blk=p.blk∧p.gen≤p'.gen∧(p.gen=p'.gen→p'=p)
 psi:ψ.le ψ'
theorem cX.le_refl (p:cX):p.le p:=⟨fun _ _ _ h=>h,fun _ _ h=>h⟩
theorem cX.le_trans {p q r:cX} (h:p.le q) (k:q.le r):p.le r:=⟨fun b o v e=>k.1 _ _ _ (h.1 b o v e),fun b e' e=>k.2 _ _ (h.2 b e' e)⟩
theorem cN.refl (ι:List Pl) (ψ:cX):cN ι ψ ι ψ:=⟨fun _ p h=>⟨p,h,rfl,aP _,fun _=>rfl⟩,cX.le_refl _⟩
theorem cN.trans {ι ι' ι'':List Pl}{ψ ψ' ψ'':cX} (h:cN ι ψ ι' ψ') (k:cN ι' ψ' ι'' ψ''):cN ι ψ ι'' ψ'':=by
 refine⟨fun i p hp=>?_,cX.le_trans h.psi k.psi⟩
 obtain⟨p1,h1,hb1,hg1,he1⟩:=h.pl i p hp
 obtain⟨p2,h2,hb2,hg2,he2⟩:=k.pl i p1 h1
 refine⟨p2,h2,hb2.trans hb1,dB hg1 hg2,fun e=>?_⟩
 have e1:p.gen=p1.gen:=by omega
 have e2:p1.gen=p2.gen:=by omega
 rw [he2 e2,he1 e1]
theorem VR.mono {ι ι':List Pl}{ψ ψ':cX} (hx:cN ι ψ ι' ψ'){x:AV}{v:Value} (h:VR ι ψ x v):VR ι' ψ' x v:=by
 induction h with
 | int k n=>exact .int k n
 | bool b=>exact .bool b
 | str s b h=>exact .str s b h
 | nilp=>exact .nilp
 | own a off pl h =>
  obtain⟨p',h',hb,_⟩:=hx.pl a pl h
  rw [← hb];exact .own a off p' h'
 | oel a g i off ad pl h hg hs =>
  obtain⟨p',h',hb,hg',he⟩:=hx.pl a pl h
  refine .oel a g i off ad p' h' (dB hg hg') fun e=>?_
  have:pl.gen=p'.gen:=by omega
  rw [he this];exact hs (by omega)
 | pro cs b o cv h1 h2 ih=>exact .pro cs b o cv (fun j x e=>⟨(h1 j x e).1,hx.psi.1 _ _ _ (h1 j x e).2⟩) ih
 | snil=>exact .snil
 | svnil full=>exact .svnil full
 | sval sz full els b o cap cv hsz hcap hf h1 h2 ih=>exact .sval sz full els b o cap cv hsz hcap hf (fun i e j x he hj=>⟨(h1 i e j x he hj).1,hx.psi.1 _ _ _ (h1 i e j x he hj).2⟩) ih
 | sown a g n ad cap pl h hg hs =>
  obtain⟨p',h',hb,hg',he⟩:=hx.pl a pl h
  refine .sown a g n ad cap p' h' (dB hg hg') fun e=>?_
  have:pl.gen=p'.gen:=by omega
  rw [he this];exact hs (by omega)
 | mnil=>exact .mnil
 | mown a pl h =>
  obtain⟨p',h',hb,_⟩:=hx.pl a pl h
  rw [← hb];exact .mown a p' h'
 | mval es l b ck me hb hp hl hn h1 h2 ih1 ih2=>exact .mval es l b ck me (hx.psi.2 _ _ hb) hp hl hn ih1 ih2
 | fn f first cap vf vc hl1 hl2 h1 h2 ih1 ih2=>exact .fn f first cap vf vc hl1 hl2 ih1 ih2
 | fnil=>exact .fnil
 | yld a pl h =>
  obtain⟨p',h',hb,_⟩:=hx.pl a pl h
  rw [← hb];exact .yld a p' h'
 | ifc t x v h ih=>exact .ifc t x v ih
 | inil=>exact .inil
 | agg cs vs hl h ih=>exact .agg cs vs hl ih
 | tup cs vs hl h ih=>exact .tup cs vs hl ih
 | dfr cs vs hl h ih=>exact .dfr cs vs hl ih
 | val v h=>exact .val v h
 | junk v=>exact .junk v
inductive ax where
 | cells (cs:List AV) (ty:Option TypeId:=none)
 | arr (e:TypeId) (sz fz g:Nat) (els:List AV)
 | obj (o:Obj)
 | loop (st:LoopState) (pend:Option Code) (N:Nat) (tm:List (Nat × AV)) (ps:Array Tmp) (assign body:Code)
 | mp (fz:Bool) (es:List (AV × AV))
 | mit (cur:Option (AV × AV)) (rest:List (AV × AV))
 | dead
 deriving Inhabited
def wr (me:Array MapEntry) (c:Nat):Prop:=(∀ m∈me.toList,m.born<c)∧(me.toList.map (·.born)).Nodup
def nP (ι:List Pl) (ψ:cX) (l:List (AV × AV)) (me:List MapEntry):Prop :=
 l.length=me.length∧∀ (i:Nat) (e:AV × AV) (m:MapEntry),l[i]? = some e→me[i]? = some m→VR ι ψ e.1 m.key∧VR ι ψ e.2 m.val
theorem nP.mono {ι ι':List Pl}{ψ ψ':cX} (hx:cN ι ψ ι' ψ'){l:List (AV × AV)}{me:List MapEntry} (h:nP ι ψ l me):nP ι' ψ' l me :=
 ⟨h.1,fun i e m he hm=>⟨(h.2 i e m he hm).1.mono hx,(h.2 i e m he hm).2.mono hx⟩⟩
def dg (els:List AV):List AV:=els.flatMap AV.cells
def FC (pl:Pl) (o:Obj):Prop:=o.isCells=true→pl.gen=0∧pl.sz=1∧∃ n cap,pl.sv=.slice (some ⟨pl.blk,0,none⟩) n cap
def kQ (n0:Nat) (ι:List Pl) (ψ:cX) (w:World) (pl:Pl):ax→Prop
 | .cells cs ty=>n0≤pl.blk∧(∃ (c:Array Value) (T:TypeId),w.heap[pl.blk]? = some (.cells c T (0,0))∧c.size=cs.length∧∀ (j:Nat) (x:AV),cs[j]? = some x→x.leaf=true∧∃ v,c[j]? = some v∧VR ι ψ x v)∧(∀ o,ψ.c pl.blk o=none)∧(∀ t,ty=some t→∃ c,w.heap[pl.blk]? = some (.cells c t (0,0)))
 | .arr e sz fz g els=>(pl.gen=g∧pl.sz=sz)∧(∀ x∈els,x.cells.length=sz)∧0<sz∧fz≤els.length∧(∃ xs:List Value,w.ownsRow n0 e sz pl.sv els.length xs ∧
   (∀ (j:Nat) (x:AV),(dg els)[j]? = some x→x.leaf=true∧∃ v,xs[j]? = some v∧VR ι ψ x v∧(j<fz * sz→∀ k,pl.sv.ownBlock=some k→ψ.c k j=some v))) ∧
   (∀ (k o:Nat),pl.sv.ownBlock=some k→fz * sz≤o→ψ.c k o=none)
 | .obj o=>n0≤pl.blk∧w.heap[pl.blk]? = some o∧FC pl o∧(∀ k,ψ.c pl.blk k=none)∧ψ.m pl.blk=none
 | .loop st pend N tm ps assign body=>n0≤pl.blk∧(∃ (fn:FuncId) (vs:Array Value) (d:Nat),w.heap[pl.blk]? = some (.loop { state:=st,pending:=pend,fn,tmps:=vs,params:=ps,assign,body,defers:=d }) ∧
   vs.size=N∧∀ p∈tm,VR ι ψ p.2 (vs.getD p.1 undef))∧(∀ k,ψ.c pl.blk k=none)∧ψ.m pl.blk=none
 | .mp fz es=>n0≤pl.blk∧(es.map bZ).Nodup∧(∃ (me:Array MapEntry) (c:Nat) (l:List (AV × AV)),w.heap[pl.blk]? = some (.map me c)∧wr me c∧l.Perm es∧nP ι ψ l me.toList∧ψ.m pl.blk=if fz then some (me,c) else none) ∧
   (∀ k,ψ.c pl.blk k=none)
 | .mit cur rest=>n0≤pl.blk∧((w.heap[pl.blk]? = some (.mapIter none 0 #[] 0)∧rest=[]∧cur=none)∨∃ (mb ck:Nat) (me:Array MapEntry) (seen:Array Nat) (l:List (AV × AV)),w.heap[pl.blk]? = some (.mapIter (some mb) ck seen ck) ∧
   ψ.m mb=some (me,ck)∧l.Perm rest∧nP ι ψ l (me.toList.filter (fun e=>!seen.contains e.born)) ∧
   (∀ e,cur=some e→∃ b m,seen.back? = some b∧me.find? (·.born==b)=some m∧VR ι ψ e.1 m.key∧VR ι ψ e.2 m.val))∧(∀ k,ψ.c pl.blk k=none)∧ψ.m pl.blk=none
 | .dead=>True
def ax.at (pl:Pl):ax→Option Nat
 | .cells ..=>some pl.blk
 | .obj _=>some pl.blk
 | .loop ..=>some pl.blk
 | .mp ..=>some pl.blk
 | .mit ..=>some pl.blk
 | .arr ..=>pl.sv.ownBlock
 | .dead=>none
structure b7 (w0:World) (ι:List Pl) (ψ:cX) (S:List ax) (w:World):Prop where
 below:Below w0.heap.size w0 w
 psi:∀ b o v,ψ.c b o=some v→w.cell? ⟨b,o,none⟩=some v
 psim:∀ b es c,ψ.m b=some (es,c)→w.heap[b]? = some (.map es c)∧wr es c
 len:ι.length=S.length
 blk:∀ (i:Nat) (B:ax) (pl:Pl),S[i]? = some B→ι[i]? = some pl→kQ w0.heap.size ι ψ w pl B
 old:∀ b o v,b<w0.heap.size→w0.cell? ⟨b,o,none⟩=some v→ψ.c b o=some v
 inj:∀ (i j:Nat) (B C:ax) (p q:Pl) (k:Nat),S[i]? = some B→S[j]? = some C→ι[i]? = some p→ι[j]? = some q→B.at p=some k→C.at q=some k→i=j
theorem kQ.ext {n0:Nat}{ι ι':List Pl}{ψ ψ':cX}{w w':World}{pl:Pl}{B:ax} (h:kQ n0 ι ψ w pl B) (hx:cN ι ψ ι' ψ')
  (hw:∀ k,B.at pl=some k→w'.heap[k]? = w.heap[k]?) (hp:∀ k o,B.at pl=some k→ψ'.c k o=ψ.c k o) (hm:∀ k,B.at pl=some k→ψ'.m k=ψ.m k):kQ n0 ι' ψ' w' pl B:=by
 cases B with
 | cells cs ty =>
  obtain⟨h0,⟨c,T,h1,h2,h3⟩,h4,h5⟩:=h
  refine⟨h0,⟨c,T,(hw _ rfl).trans h1,h2,fun j x e=>?_⟩,fun o=>(hp _ o rfl).trans (h4 o),fun t ht=>let ⟨c,hc⟩:=h5 t ht;⟨c,(hw _ rfl).trans hc⟩⟩
  obtain⟨hl,v,hv,hr⟩:=h3 j x e
  exact⟨hl,v,hv,hr.mono hx⟩
 | arr e sz fz g els =>
  obtain⟨hg,hsz,hpos,hfz,⟨xs,hown,hxs⟩,hps⟩:=h
  refine⟨hg,hsz,hpos,hfz,⟨xs, ?_,fun j x e'=>?_⟩,fun k o hk ho=>(hp k o hk).trans (hps k o hk ho)⟩
  ·refine⟨hown.1, ?_⟩
   rcases hown.2 with hn | ⟨g',cap,cur,hv,hb,hgg,rest⟩
   ·exact .inl hn
   ·exact .inr ⟨g',cap,cur,hv,hb,(hw g' (by simp [ax.at,hv,bR])).trans hgg,rest⟩
  ·obtain⟨hl,v,hv,hr,hro⟩:=hxs j x e'
   exact⟨hl,v,hv,hr.mono hx,fun r k hk=>(hp _ _ hk).trans (hro r k hk)⟩
 | obj o =>
  obtain⟨h0,h1,h2,h3,h4⟩:=h
  exact⟨h0,(hw _ rfl).trans h1,h2,fun k=>(hp _ k rfl).trans (h3 k),(hm _ rfl).trans h4⟩
 | loop st pend N tm ps assign body =>
  obtain⟨h0,⟨fn,vs,d,h1,h2,h2'⟩,h3,h4⟩:=h
  exact⟨h0,⟨fn,vs,d,(hw _ rfl).trans h1,h2,fun p hp'=>(h2' p hp').mono hx⟩,fun k=>(hp _ k rfl).trans (h3 k),(hm _ rfl).trans h4⟩
 | mp fz es =>
  obtain⟨h0,hn,⟨me,c,l,h1,h2,h3,h4,h5⟩,h6⟩:=h
  exact⟨h0,hn,⟨me,c,l,(hw _ rfl).trans h1,h2,h3,h4.mono hx,(hm _ rfl).trans h5⟩,fun k=>(hp _ k rfl).trans (h6 k)⟩
 | mit cur rest =>
  obtain⟨h0,h1,h3,h4⟩:=h
  refine⟨h0, ?_,fun k=>(hp _ k rfl).trans (h3 k),(hm _ rfl).trans h4⟩
  rcases h1 with⟨h1,h2⟩ | ⟨mb,ck,me,seen,l,h1,h2,h6,h7,h8⟩
  ·exact .inl ⟨(hw _ rfl).trans h1,h2⟩
  ·exact .inr ⟨mb,ck,me,seen,l,(hw _ rfl).trans h1,hx.psi.2 _ _ h2,h6,h7.mono hx,fun e he=>let ⟨b,m,k1,k2,k3,k4⟩:=h8 e he;⟨b,m,k1,k2,k3.mono hx,k4.mono hx⟩⟩
 | dead=>trivial
end Go.Fen
namespace Go.Fen
open Go.RowKit
variable {P:Program}{w0 w w':World}{ι:List Pl}{ψ:cX}{S:List ax}
def cX.addRow (ψ:cX) (b:Nat) (c:List Value):cX:={ ψ with c:=fun b' o=>if b'=b then c[o]? else ψ.c b' o }
theorem cX.le_addRow {b:Nat}{c:List Value} (h:∀ o v,ψ.c b o=some v→c[o]? = some v):ψ.le (ψ.addRow b c):=by
 refine⟨fun b' o v e=>?_,fun _ _ e=>e⟩
 simp only [cX.addRow]
 split
 ·next hb=>subst hb;exact h o v e
 ·exact e
theorem b7.psi_new (h:b7 w0 ι ψ S w){b:Nat} (hb:w.heap.size≤b) (o:Nat):ψ.c b o=none:=by
 cases e:ψ.c b o with
 | none=>rfl
 | some v =>
  have h1:=h.psi b o v e
  have h2:=eO w _ h1
  simp at h2
  omega
theorem b7.n0 (h:b7 w0 ι ψ S w):w0.heap.size≤w.heap.size:=h.below.size
theorem kQ.at_obj {n0:Nat}{pl:Pl}{B:ax}{k:Nat} (h:kQ n0 ι ψ w pl B) (hk:B.at pl=some k):n0≤k∧∃ o,w.heap[k]? = some o∧((∃ c T,o=.cells c T (0,0))∨ψ.m k=none∨∃ es,B=.mp true es):=by
 cases B with
 | cells cs ty =>
  obtain⟨h0,⟨c,T,h1,_⟩,_⟩:=h
  simp [ax.at] at hk
  subst hk
  exact⟨h0,_,h1,.inl ⟨c,T,rfl⟩⟩
 | arr e sz fz g els =>
  obtain⟨_,_,_,_,⟨xs,hown,_⟩,_⟩:=h
  rcases hown.2 with⟨hn,_⟩ | ⟨g',cap,cur,hv,hb,hgg,_⟩
  ·simp [ax.at,hn,bR] at hk
  ·simp [ax.at,hv,bR] at hk
   subst hk
   exact⟨hb,_,hgg,.inl ⟨cur,e,rfl⟩⟩
 | obj o =>
  obtain⟨h0,h1,h2,h3,h4⟩:=h
  simp [ax.at] at hk
  subst hk
  exact⟨h0,o,h1,.inr (.inl h4)⟩
 | loop st pend N tm ps assign body =>
  obtain⟨h0,⟨fn,vs,d,h1,_⟩,h3,h4⟩:=h
  simp [ax.at] at hk
  subst hk
  exact⟨h0,_,h1,.inr (.inl h4)⟩
 | mp fz es =>
  obtain⟨h0,hn,⟨me,c,l,h1,h2,h3,h4,h5⟩,h6⟩:=h
  simp [ax.at] at hk
  subst hk
  cases fz
  ·exact⟨h0,_,h1,.inr (.inl (by simpa using h5))⟩
  ·exact⟨h0,_,h1,.inr (.inr ⟨es,rfl⟩)⟩
 | mit cur rest =>
  obtain⟨h0,h1,h3,h4⟩:=h
  simp [ax.at] at hk
  subst hk
  rcases h1 with⟨h1,_⟩ | ⟨mb,ck,me,seen,l,h1,_⟩<;>exact⟨h0,_,h1,.inr (.inl h4)⟩
 | dead=>simp [ax.at] at hk
theorem du {k:Nat}{o:Obj} (h:w.heap[k]? = some o):k<w.heap.size:=(bO.1 h).1
theorem kQ.at_lt {n0:Nat}{pl:Pl}{B:ax}{k:Nat} (h:kQ n0 ι ψ w pl B) (hk:B.at pl=some k):n0≤k∧k<w.heap.size:=by
 obtain⟨h0,o,h1,_⟩:=h.at_obj hk
 exact⟨h0,du h1⟩
theorem b7.get (h:b7 w0 ι ψ S w){i:Nat}{B:ax} (hi:S[i]? = some B):∃ pl,ι[i]? = some pl∧kQ w0.heap.size ι ψ w pl B:=by
 have h1:i<ι.length:=by rw [h.len];exact(ab.1 hi).1
 exact⟨ι[i],by simp [h1],h.blk i B _ hi (by simp [h1])⟩
theorem b7.getS (h:b7 w0 ι ψ S w){i:Nat}{pl:Pl} (hi:ι[i]? = some pl):∃ B,S[i]? = some B∧kQ w0.heap.size ι ψ w pl B:=by
 have h1:i<S.length:=by rw [← h.len];exact(ab.1 hi).1
 exact⟨S[i],by simp [h1],h.blk i _ pl (by simp [h1]) hi⟩
theorem b7.same_heap (h:b7 w0 ι ψ S w) (hh:w'.heap=w.heap) (ho:w'.os=w.os) (ht:w'.tape=w.tape) (hu:w'.output=w.output):b7 w0 ι ψ S w':=by
 refine⟨h.below.trans ⟨ho,ht,hu,by rw [hh];exact aP _,fun k _=>by rw [hh]⟩,fun b o v e=>?_,fun b es c e=>by rw [hh];exact h.psim b es c e,h.len,fun i B pl hB hp=>?_,h.old,h.inj⟩
 ·have:=h.psi b o v e
  simp only [jx,hh] at this ⊢
  exact this
 ·exact(h.blk i B pl hB hp).ext (cN.refl _ _) (fun k _=>by rw [hh]) (fun _ _ _=>rfl) (fun _ _=>rfl)
theorem b7.drew (h:b7 w0 ι ψ S w):b7 w0 ι ψ S w.drew:=h.same_heap rfl rfl rfl rfl
theorem b7.grow (h:b7 w0 ι ψ S w){ψ':cX} (hb:Below w0.heap.size w w') (hold:∀ k,k<w.heap.size→w'.heap[k]? = w.heap[k]?) (hle:ψ.le ψ')
  (hc:∀ b o v,ψ'.c b o=some v→ψ.c b o=some v∨(w.heap.size≤b∧w'.cell? ⟨b,o,none⟩=some v))
  (hm:∀ b es c,ψ'.m b=some (es,c)→ψ.m b=some (es,c)∨(w.heap.size≤b∧w'.heap[b]? = some (.map es c)∧wr es c)):b7 w0 ι ψ' S w':=by
 refine⟨h.below.trans hb,fun b o v e=>?_,fun b es c e=>?_,h.len,fun i B pl hB hp=>?_,fun b o v hb0 e=>hle.1 _ _ _ (h.old b o v hb0 e),h.inj⟩
 ·rcases hc b o v e with e1 | ⟨_,e1⟩
  ·have h1:=h.psi b o v e1
   have h2:=eO w _ h1
   rw [lk (hold b h2)];exact h1
  ·exact e1
 ·rcases hm b es c e with e1 | ⟨_,e1⟩
  ·obtain⟨hc',hok⟩:=h.psim b es c e1
   exact⟨(hold b (du hc')).trans hc',hok⟩
  ·exact e1
 ·have hB':=h.blk i B pl hB hp
  refine hB'.ext ⟨(cN.refl ι ψ).pl,hle⟩ (fun k hk=>hold k (hB'.at_lt hk).2) (fun k o hk=>?_) (fun k hk=>?_)
  rotate_left
  ·have hlt:=(hB'.at_lt hk).2
   cases e:ψ'.m k with
   | none =>
    cases e2:ψ.m k with
    | none=>rfl
    | some v=>rw [hle.2 k v e2] at e;cases e
   | some v =>
    rcases hm k v.1 v.2 e with e1 | ⟨hge,_⟩
    ·exact e1.symm
    ·omega
  have hlt:=(hB'.at_lt hk).2
  cases e:ψ'.c k o with
  | none =>
   cases e2:ψ.c k o with
   | none=>rfl
   | some v=>rw [hle.1 k o v e2] at e;cases e
  | some v =>
   rcases hc k o v e with e1 | ⟨hge,_⟩
   ·exact e1.symm
   ·omega
theorem b7.alloc (h:b7 w0 ι ψ S w) (o:Obj):b7 w0 ι ψ S (w.alloc o) :=
 h.grow ((lq _ w).alloc h.n0 o) (fun k hk=>Ah w o k hk) (cX.le_refl _) (fun _ _ _ e=>.inl e) (fun _ _ _ e=>.inl e)
theorem cN.push (ι:List Pl) (ψ:cX) (p:Pl):cN ι ψ (ι++[p]) ψ:=by
 refine⟨fun i q hq=>⟨q, ?_,rfl,aP _,fun _=>rfl⟩,cX.le_refl _⟩
 have:i<ι.length:=(ab.1 hq).1
 rw [ap this];exact hq
theorem kF {α:Type}{l:List α}{x y:α}{i:Nat} (h:(l++[x])[i]? = some y):l[i]? = some y∨(i=l.length∧y=x):=by
 rcases Nat.lt_trichotomy i l.length with hlt | heq | hgt
 ·rw [ap hlt] at h;exact .inl h
 ·subst heq;simp at h;exact .inr ⟨rfl,h.symm⟩
 ·rw [aw (by omega)] at h
  have:i - l.length≠0:=by omega
  cases hk:i - l.length with
  | zero=>omega
  | succ n=>rw [hk] at h;simp at h
theorem b7.push (h:b7 w0 ι ψ S w) (pl:Pl) (B:ax) (hB:kQ w0.heap.size (ι++[pl]) ψ w pl B)
  (hf:∀ k,B.at pl=some k→∀ (i:Nat) (C:ax) (q:Pl),S[i]? = some C→ι[i]? = some q→C.at q≠some k):b7 w0 (ι++[pl]) ψ (S++[B]) w:=by
 refine⟨h.below,h.psi,h.psim,by simp [h.len],fun i C q hC hq=>?_,h.old,fun i j C D p q k hC hD hp hq hk1 hk2=>?_⟩
 ·rcases kF hC with hC | ⟨hi,rfl⟩
  ·rcases kF hq with hq | ⟨hi,rfl⟩
   ·exact(h.blk i C q hC hq).ext (cN.push ι ψ pl) (fun _ _=>rfl) (fun _ _ _=>rfl) (fun _ _=>rfl)
   ·have:=(ab.1 hC).1;have:=h.len;omega
  ·rcases kF hq with hq | ⟨hi,rfl⟩
   ·have:=(ab.1 hq).1;have:=h.len;omega
   ·exact hB
 ·have old:∀ (i:Nat) (C:ax) (p:Pl),i≠S.length→(S++[B])[i]? = some C→(ι++[pl])[i]? = some p→S[i]? = some C∧ι[i]? = some p:=by
   intro i C p hi hC hp
   refine⟨(kF hC).resolve_right (fun e=>hi e.1),(kF hp).resolve_right (fun e=>hi (e.1.trans h.len))⟩
  have new:∀ (i:Nat) (C:ax) (p:Pl),i=S.length→(S++[B])[i]? = some C→(ι++[pl])[i]? = some p→C=B∧p=pl:=by
   intro i C p hi hC hp
   subst hi
   rw [← h.len] at hp
   simp at hC
   simp at hp
   exact⟨hC.symm,hp.symm⟩
  by_cases hi:i=S.length<;>by_cases hj:j=S.length
  ·omega
  ·obtain⟨rfl,rfl⟩:=new i C p hi hC hp
   obtain⟨h1,h2⟩:=old j D q hj hD hq
   exact absurd hk2 (hf k hk1 j D q h1 h2)
  ·obtain⟨rfl,rfl⟩:=new j D q hj hD hq
   obtain⟨h1,h2⟩:=old i C p hi hC hp
   exact absurd hk1 (hf k hk2 i C p h1 h2)
  ·obtain⟨h1,h2⟩:=old i C p hi hC hp
   obtain⟨h3,h4⟩:=old j D q hj hD hq
   exact h.inj i j C D p q k h1 h3 h2 h4 hk1 hk2
theorem b7.newCells (h:b7 w0 ι ψ S w) (cs:List AV) (c:Array Value) (T:TypeId) (hl:c.size=cs.length) (hc:∀ (j:Nat) (x:AV),cs[j]? = some x→x.leaf=true∧∃ v:Value,c[j]? = some v∧VR ι ψ x v) (ty:Option TypeId:=none) (hty:∀ t,ty=some t→T=t:=by intro t e;cases e) :
  b7 w0 (ι++[⟨w.heap.size,0,undef,0⟩]) ψ (S++[.cells cs ty]) (w.alloc (.cells c T)):=by
 have h1:=h.alloc (.cells c T)
 refine h1.push _ _ ⟨h.n0,⟨c,T,heap_alloc_new w _,hl,fun j x e=>?_⟩,fun o=>h.psi_new (aP _) o,fun t ht=>⟨c,by rw [← hty t ht];exact heap_alloc_new w _⟩⟩ ?_
 ·obtain⟨hlf,v,hv,hr⟩:=hc j x e
  exact⟨hlf,v,hv,hr.mono (cN.push ι ψ _)⟩
 ·intro k hk i C q hC hq hk2
  simp [ax.at] at hk
  subst hk
  have:=((h.blk i C q hC hq).at_lt hk2).2
  omega
theorem b7.update (h:b7 w0 ι ψ S w){i:Nat}{B B':ax}{pl pl':Pl}{ψ':cX} (hi:S[i]? = some B) (hpl:ι[i]? = some pl)
  (hb:Below w0.heap.size w w') (hother:∀ k,B.at pl≠some k→k<w.heap.size→w'.heap[k]? = w.heap[k]?)
  (hext:cN ι ψ (ι.set i pl') ψ') (hB':kQ w0.heap.size (ι.set i pl') ψ' w' pl' B')
  (hat:∀ k,B'.at pl'=some k→B.at pl=some k∨w.heap.size≤k)
  (hpsi:∀ b o v,ψ'.c b o=some v→(ψ.c b o=some v∧B.at pl≠some b)∨((B.at pl=some b∨w.heap.size≤b)∧w'.cell? ⟨b,o,none⟩=some v)) (hm:ψ'.m=ψ.m) (hfz:∀ es,B=.mp true es→w'.heap[pl.blk]? = w.heap[pl.blk]?:=by intro es hB;cases hB) :
  b7 w0 (ι.set i pl') ψ' (S.set i B') w':=by
 have hB:=h.blk i B pl hi hpl
 have hil:i<S.length:=(ab.1 hi).1
 have hil':i<ι.length:=by rw [h.len];exact hil
 refine⟨h.below.trans hb,fun b o v e=>?_,fun b es c e=>?_,by simp [h.len],fun j C q hC hq=>?_,fun b o v hb0 e=>hext.psi.1 _ _ _ (h.old b o v hb0 e),fun j l C D p q k hC hD hp hq hk1 hk2=>?_⟩
 ·rcases hpsi b o v e with⟨e1,hne⟩ | ⟨_,e1⟩
  ·have h1:=h.psi b o v e1
   rw [lk (hother b hne (eO w _ h1))];exact h1
  ·exact e1
 ·rw [hm] at e
  obtain⟨hc,hok⟩:=h.psim b es c e
  by_cases hk:B.at pl=some b
  ·obtain⟨_,o,hcells,hcase⟩:=hB.at_obj hk
   rcases hcase with⟨c',T,rfl⟩ | hn | ⟨es',hmp⟩
   ·rw [hcells] at hc;cases hc
   ·rw [hn] at e;cases e
   ·have h1:=hfz es' hmp
    subst hmp
    simp [ax.at] at hk
    subst hk
    exact⟨h1.trans hc,hok⟩
  ·exact⟨(hother b hk (du hc)).trans hc,hok⟩
 ·by_cases hji:j=i
  ·subst hji
   simp [hil] at hC
   simp [hil'] at hq
   subst hC;subst hq;exact hB'
  ·rw [bl (by omega)] at hC hq
   have hC':=h.blk j C q hC hq
   refine hC'.ext hext (fun k hk=>hother k (fun hk2=>hji (h.inj j i C B q pl k hC hi hq hpl hk hk2)) (hC'.at_lt hk).2) (fun k o hk=>?_) (fun k _=>by rw [hm])
   have hne:B.at pl≠some k:=fun hk2=>hji (h.inj j i C B q pl k hC hi hq hpl hk hk2)
   cases e:ψ'.c k o with
   | none =>
    cases e2:ψ.c k o with
    | none=>rfl
    | some v=>rw [hext.psi.1 k o v e2] at e;cases e
   | some v =>
    rcases hpsi k o v e with⟨e1,_⟩ | ⟨hk3 | hge,_⟩
    ·exact e1.symm
    ·exact absurd hk3 hne
    ·have:=(hC'.at_lt hk).2;omega
 ·have key:∀ (j:Nat) (C:ax) (p:Pl) (k:Nat),j≠i→S[j]? = some C→ι[j]? = some p→C.at p=some k→B'.at pl'=some k→False:=by
   intro j C p k hji hC hp hk1 hk2
   rcases hat k hk2 with hk3 | hge
   ·exact hji (h.inj j i C B p pl k hC hi hp hpl hk1 hk3)
   ·have:=((h.blk j C p hC hp).at_lt hk1).2;omega
  by_cases hj:j=i<;>by_cases hl:l=i
  ·omega
  ·subst hj
   simp [hil] at hC;simp [hil'] at hp
   subst hC;subst hp
   rw [bl (by omega)] at hD hq
   exact(key l D q k hl hD hq hk2 hk1).elim
  ·subst hl
   simp [hil] at hD;simp [hil'] at hq
   subst hD;subst hq
   rw [bl (by omega)] at hC hp
   exact(key j C p k hj hC hp hk1 hk2).elim
  ·rw [bl (by omega)] at hC hD hp hq
   exact h.inj j l C D p q k hC hD hp hq hk1 hk2
theorem eK {α:Type}{l:List α}{i:Nat}{x:α} (h:l[i]? = some x):l.set i x=l:=by
 apply List.ext_getElem?
 intro j
 by_cases hj:j=i
 ·subst hj
  have:j<l.length:=(ab.1 h).1
  simp [this] at h ⊢;exact h.symm
 ·rw [bl (by omega)]
def eV (cs:List AV) (off:Nat) (news:List AV):List AV:=cs.take off++news++cs.drop (off+news.length)
theorem d8 {α:Type} (cs news:List α) (off j:Nat) (h:off+news.length≤cs.length) :
  (cs.take off++news++cs.drop (off+news.length))[j]? = if off≤j∧j<off+news.length then news[j - off]? else cs[j]?:=by
 have hl:(cs.take off).length=off:=by simp;omega
 by_cases h1:j<off
 ·rw [aK,ap (by omega),if_neg (by omega)]
  simp [h1]
 ·by_cases h2:j<off+news.length
  ·rw [aK,aw (by omega),hl,ap (by omega),if_pos (by omega)]
  ·rw [aw (by simp;omega),if_neg (by omega)]
   simp only [ah,hl,bQ]
   congr 1;omega
theorem b7.storeCells (h:b7 w0 ι ψ S w){i:Nat}{cs:List AV}{ty:Option TypeId}{pl:Pl} (hi:S[i]? = some (.cells cs ty)) (hpl:ι[i]? = some pl) (off:Nat) (news:List AV) (nv:List Value)
  (hl:news.length=nv.length) (hn:∀ (j:Nat) (x:AV),news[j]? = some x→x.leaf=true∧∃ v:Value,nv[j]? = some v∧VR ι ψ x v) (h1:∀ v∈nv,v.oneCell'=true) (hfit:off+news.length≤cs.length) :
  ∃ w',(Go.storeCells ⟨pl.blk,off,none⟩ nv).run P w=.ok () w'∧b7 w0 ι ψ (S.set i (.cells (eV cs off news) ty)) w':=by
 have hB:=h.blk i _ pl hi hpl
 obtain⟨h0,⟨c,T,hc,hcl,hcv⟩,hps,hty⟩:=hB
 have hst:=run_storeCells_at P pl.blk off T nv 0 c w hc (by omega) h1
 simp only [kf] at hst
 refine⟨_,hst, ?_⟩
 have hset:ι.set i pl=ι:=eK hpl
 have key:=h.update (w':=w.setRow pl.blk (lm off c.toList++nv++List.drop (off+nv.length) c.toList).toArray) (ψ':=ψ) (B':=.cells (eV cs off news) ty) (pl':=pl) hi hpl ?_ ?_ ?_ ?_ ?_ ?_ rfl
 ·rw [hset] at key;exact key
 ·exact⟨rfl,rfl,rfl,by simp [uj],fun k hk=>setRow_other w _ k _ (by omega)⟩
 ·intro k hk _
  exact setRow_other w _ k _ (fun e=>hk (by simp [ax.at,e]))
 ·rw [hset];exact cN.refl _ _
 ·rw [hset]
  refine⟨h0,⟨_,T,setRow_heap w pl.blk c _ T (0,0) hc, ?_,fun j x e=>?_⟩,hps,fun t ht=>by
   obtain⟨c2,hc2⟩:=hty t ht
   rw [hc] at hc2;cases hc2
   exact⟨_,setRow_heap w pl.blk c _ T (0,0) hc⟩⟩
  ·simp [eV];omega
  ·rw [eV,d8 cs news off j hfit] at e
   have e2:=d8 c.toList nv off j (by simp;omega)
   simp only [cS]
   rw [e2]
   by_cases hj:off≤j∧j<off+news.length
   ·rw [if_pos hj] at e
    rw [if_pos (by omega)]
    exact hn _ x e
   ·rw [if_neg hj] at e
    rw [if_neg (by omega)]
    obtain⟨hlf,v,hv,hr⟩:=hcv j x e
    exact⟨hlf,v,by simpa using hv,hr⟩
 ·intro k hk;exact .inl (by simpa [ax.at] using hk)
 ·intro b o v e
  by_cases hb:b=pl.blk
  ·subst hb;rw [hps o] at e;cases e
  ·exact .inl ⟨e,fun hk=>hb (by simp [ax.at] at hk;exact hk.symm)⟩
end Go.Fen
namespace Go.Fen
open Go.RowKit
variable {P:Program}{w0 w w':World}{ι:List Pl}{ψ:cX}{S:List ax}
def lG:Value→AV
 | .int k n=>.int k n
 | .bool b=>.bool b
 | .string s=>.str s.data.toList
 | .pointer none=>.nilp
 | .slice none 0 0=>.snil
 | .map none=>.mnil
 | .nilFunc=>.fnil
 | .nilIface=>.inil
 | _=>.junk
def Ai:Value→AV
 | .agg cs=>.agg (cs.toList.map lG)
 | .tuple cs=>.tup (cs.toList.map lG)
 | .iface t v=>.ifc t (lG v)
 | v=>lG v
theorem lc (v:Value):VR ι ψ (lG v) v:=by
 unfold lG
 split<;>first | exact .junk _ | constructor
 rfl
theorem sf (v:Value):VR ι ψ (Ai v) v:=by
 unfold Ai
 split
 ·refine .agg _ _ (by simp) fun j x v h1 h2=>?_
  simp only [aF,a7,h2,cu,a8] at h1
  subst h1;exact lc v
 ·refine .tup _ _ (by simp) fun j x v h1 h2=>?_
  simp only [aF,a7,h2,cu,a8] at h1
  subst h1;exact lc v
 ·exact .ifc _ _ _ (lc _)
 ·exact lc _
def qj:Value→AV
 | .int k n=>.int k n
 | .bool b=>.bool b
 | .string s=>.str s.data.toList
 | .pointer none=>.nilp
 | .slice none 0 0=>.sval false []
 | .map none=>.mnil
 | .nilFunc=>.fnil
 | .nilIface=>.inil
 | .iface t v=>.ifc t (qj v)
 | v=>if v.oneCell' then .val v else .junk
theorem iE (v:Value):VR ι ψ (if v.oneCell' then .val v else .junk) v:=by
 cases h:v.oneCell'
 ·exact .junk v
 ·exact .val v h
theorem ug:(v:Value)→VR ι ψ (qj v) v
 | .int k n=>.int k n
 | .bool b=>.bool b
 | .float k n=>iE _
 | .complex k a b=>iE _
 | .string s=>.str _ _ rfl
 | .pointer none=>.nilp
 | .pointer (some a)=>iE _
 | .slice none 0 0=>.svnil _
 | .slice none 0 (n+1)=>iE _
 | .slice none (m+1) n=>iE _
 | .slice (some a) m n=>iE _
 | .map none=>.mnil
 | .map (some r)=>iE _
 | .chan r=>iE _
 | .func f a b=>iE _
 | .nilFunc=>.fnil
 | .iface t v=>.ifc _ _ _ (ug v)
 | .nilIface=>.inil
 | .agg cs=>iE _
 | .tuple cs=>iE _
def gl (w0:World) (g:Nat):AV :=
 match w0.heap[g]? with
 | some (.cells c _ _)=>if c.toList.all ul then .pro (c.toList.map qj) else .junk
 | _=>.junk
theorem u9 {v:Value} (h:v.oneCell'=true):(qj v).leaf=true:=by
 unfold qj
 split<;>first | rfl | (rw [if_pos h];rfl)
theorem zp (h:b7 w0 ι ψ S w) (g:Nat):VR ι ψ (gl w0 g) (.pointer (some ⟨g,0,none⟩)):=by
 unfold gl
 split
 ·next c T fz hc =>
  split
  ·next hall =>
   refine .pro _ g 0 (fun j=>(c[j]?).getD undef) (fun j x e=>?_) (fun j x e=>?_)
   all_goals
    simp only [aF,aJ,a7] at e
    obtain⟨v,hv,rfl⟩:=e
   ·have h1:=aq.1 hall v (by rw [← a7] at hv;exact ar hv)
    refine⟨u9 h1, ?_⟩
    rw [di,hv]
    exact h.old g j v (du hc) (by simp [jx,hc,hv])
   ·rw [hv];exact ug v
  ·exact .junk _
 ·exact .junk _
def bf (w0:World) (env:Nat→AV):Operand→AV
 | .tmp t=>env t
 | .const v=>Ai v
 | .global g=>gl w0 g
 | .func f=>.fn (.func f) [] []
abbrev DS:Nat:=1000000
def sI:Value→Deferred
 | .pointer (some ad)=>{ target:=.collected ad.block,args:=#[] }
 | .func f vf vc=>{ target:=.fn f vc,args:=vf }
 | _=>default
structure eA (ι:List Pl) (ψ:cX) (N:Nat) (env:Nat→AV) (a:Act):Prop where
 size:a.tmps.size=N
 bound:N≤DS
 defers:∃ (l:List AV) (vs:List Value),env DS=.dfr l∧l.length=vs.length∧(∀ (j:Nat) (x:AV) (v:Value),l[j]? = some x→vs[j]? = some v→VR ι ψ x v)∧a.defers=vs.map sI
 tmp:∀ t,VR ι ψ (env t) (a.tmps.getD t undef)
def eg (env:Nat→AV) (t:Nat) (v:AV):Nat→AV:=fun s=>if s=t then v else env s
theorem eA.mono {ι':List Pl}{ψ':cX}{N:Nat}{env:Nat→AV}{a:Act} (h:eA ι ψ N env a) (hx:cN ι ψ ι' ψ'):eA ι' ψ' N env a:=by
 refine⟨h.size,h.bound, ?_,fun t=>(h.tmp t).mono hx⟩
 obtain⟨l,vs,h1,h2,h3,h4⟩:=h.defers
 exact⟨l,vs,h1,h2,fun j x v hx' hv=>(h3 j x v hx' hv).mono hx,h4⟩
theorem eA.put {N:Nat}{env:Nat→AV}{a:Act}{d:Nat}{v:AV}{c:Value} (h:eA ι ψ N env a) (hv:VR ι ψ v c) (hd:d<N):eA ι ψ N (eg env d v) (a.put (some d) c):=by
 refine⟨by simp [Act.put,h.size],h.bound, ?_,fun t=>?_⟩
 ·obtain⟨l,vs,h1,h2,h3,h4⟩:=h.defers
  have hb:=h.bound
  exact⟨l,vs,by rw [eg,if_neg (by omega)];exact h1,h2,h3,h4⟩
 simp only [eg,Act.put]
 by_cases ht:t=d
 ·subst ht
  have:t<a.tmps.size:=by rw [h.size];exact hd
  simp [jf,this,hv]
 ·rw [if_neg ht]
  have:=h.tmp t
  simpa [ay,ol (Ne.symm ht)] using this
theorem eA.eval {N:Nat}{env:Nat→AV}{a:Act} (h:eA ι ψ N env a) (hR:b7 w0 ι ψ S w) (x:Operand):VR ι ψ (bf w0 env x) (a.eval x):=by
 cases x with
 | tmp t=>exact h.tmp t
 | const v=>exact sf v
 | global g=>exact zp hR g
 | func f=>exact .fn _ _ _ _ _ rfl rfl (by simp) (by simp)
theorem VR.int_inv {k:IntKind}{n:Int}{c:Value} (h:VR ι ψ (.int k n) c):c=.int k n:=by cases h;rfl
theorem VR.bool_inv {b:Bool}{c:Value} (h:VR ι ψ (.bool b) c):c=.bool b:=by cases h;rfl
theorem VR.str_inv {s:List UInt8}{c:Value} (h:VR ι ψ (.str s) c):c=.string ⟨s.toArray⟩:=by
 cases h with
 | str s b h=>subst h;rfl
theorem VR.str' (s:List UInt8):VR ι ψ (.str s) (.string ⟨s.toArray⟩):=.str _ _ (by simp)
theorem VR.agg_inv {cs:List AV}{c:Value} (h:VR ι ψ (.agg cs) c):∃ vs:Array Value,c=.agg vs∧cs.length=vs.size∧∀ (j:Nat) (x:AV),cs[j]? = some x→∃ v,vs[j]? = some v∧VR ι ψ x v:=by
 cases h with
 | agg cs vs hl h =>
  refine⟨vs,rfl,hl,fun j x e=>?_⟩
  have hj:j<vs.size:=by rw [← hl];exact(ab.1 e).1
  exact⟨vs[j],by simp [hj],h j x _ e (by simp [hj])⟩
theorem VR.tup_inv {cs:List AV}{c:Value} (h:VR ι ψ (.tup cs) c):∃ vs:Array Value,c=.tuple vs∧cs.length=vs.size∧∀ (j:Nat) (x:AV),cs[j]? = some x→∃ v,vs[j]? = some v∧VR ι ψ x v:=by
 cases h with
 | tup cs vs hl h =>
  refine⟨vs,rfl,hl,fun j x e=>?_⟩
  have hj:j<vs.size:=by rw [← hl];exact(ab.1 e).1
  exact⟨vs[j],by simp [hj],h j x _ e (by simp [hj])⟩
theorem VR.cells {x:AV}{c:Value} (h:VR ι ψ x c) (hj:x≠.junk):c.cells.size=x.cells.length∧∀ (j:Nat) (y:AV),x.cells[j]? = some y→∃ v,c.cells[j]? = some v∧VR ι ψ y v:=by
  have one:∀ (x:AV) (c:Value),VR ι ψ x c→x.cells=[x]→c.cells=#[c]→c.cells.size=x.cells.length∧∀ (j:Nat) (y:AV),x.cells[j]? = some y→∃ v,c.cells[j]? = some v∧VR ι ψ y v:=by
    intro x c h h1 h2
    rw [h1,h2]
    refine⟨rfl,fun j y e=>?_⟩
    cases j with
    | zero=>simp at e;subst e;exact⟨c,by simp,h⟩
    | succ n=>simp at e
  cases x<;>first
    | exact absurd rfl hj
    | (have hx:=h
       cases h with
       | val _ hv=>exact one _ _ hx rfl (by cases c<;>first | rfl | simp [ul] at hv))
    | (obtain⟨vs,rfl,hl,hv⟩:=h.agg_inv;exact⟨hl.symm,hv⟩)
    | (cases h<;>exact one _ _ (by constructor<;>assumption) rfl rfl)
theorem VR.oneCell {x:AV}{c:Value} (h:VR ι ψ x c) (hl:x.leaf=true):c.oneCell'=true:=by
 cases h<;>first | rfl | assumption | simp [AV.leaf] at hl
def j_ (P:Program) (t:TypeId):Option Bool :=
 match P.underlying t with
 | some (.struct _) | some (.array _ _)=>some true
 | some _=>some false
 | none=>none
def dG (P:Program) (t:TypeId):Option Nat:=(P.info? t).map (·.size)
theorem bP {t:TypeId}{n:Nat} (h:dG P t=some n) (w:World):(sizeOf t).run P w=.ok n w:=by
 unfold dG at h
 cases hi:P.info? t with
 | none=>simp [hi] at h
 | some i=>simp [hi] at h;simp [sizeOf,typeInfo,hi,h]
theorem kY {t:TypeId}{b:Bool} (h:j_ P t=some b) (w:World):(isAgg t).run P w=.ok b w:=by
 unfold j_ at h
 cases hu:P.underlying t with
 | none=>simp [hu] at h
 | some d=>cases d<;>simp [hu] at h<;>subst h<;>simp [isAgg,run_underlying hu]
def sZ (S:List ax):AV→Option (List AV)
 | .own a off=>match S[a]? with
  | some (.cells cs _)=>some (cs.drop off)
  | _=>none
 | .pro cs=>some cs
 | .oel a g i off=>match S[a]? with
  | some (.arr _ _ _ g' els)=>if g=g' then (els[i]?).map (fun e=>e.cells.drop off) else none
  | _=>none
 | _=>none
theorem ik (e:AV) (els:List AV):dg (e::els)=e.cells++dg els:=rfl
theorem cO {els:List AV}{sz:Nat} (h:∀ x∈els,x.cells.length=sz):(dg els).length=els.length * sz:=by
 induction els with
 | nil=>simp [dg]
 | cons e els ih =>
  rw [ik,ah,h e (by simp),ih (fun x hx=>h x (by simp [hx])),aI,fC,Nat.add_comm]
theorem iz {els:List AV}{sz:Nat} (h:∀ x∈els,x.cells.length=sz){i j:Nat}{e x:AV} (he:els[i]? = some e) (hx:e.cells[j]? = some x):(dg els)[i * sz+j]? = some x:=by
 induction els generalizing i with
 | nil=>simp at he
 | cons e' els ih =>
  have hj:j<sz:=by
   have:=(ab.1 hx).1
   rw [h e (ar he)] at this;exact this
  rw [ik]
  cases i with
  | zero =>
   simp at he;subst he
   rw [ap (by rw [h e' (by simp)];omega)]
   simpa using hx
  | succ n =>
   simp at he
   rw [aw (by rw [h e' (by simp),fC];omega),h e' (by simp)]
   have:(n+1) * sz+j - sz=n * sz+j:=by rw [fC];omega
   rw [this]
   exact ih (fun x hx=>h x (by simp [hx])) he
theorem my {els:List AV}{sz:Nat} (h:∀ x∈els,x.cells.length=sz) (hp:0<sz){k:Nat}{x:AV} (hx:(dg els)[k]? = some x):∃ e,els[k / sz]? = some e∧e.cells[k % sz]? = some x:=by
 induction els generalizing k with
 | nil=>simp [dg] at hx
 | cons e els ih =>
  rw [ik] at hx
  by_cases hk:k<sz
  ·rw [ap (by rw [h e (by simp)];exact hk)] at hx
   refine⟨e,by simp [Nat.div_eq_of_lt hk],by rw [iG hk];exact hx⟩
  ·rw [aw (by rw [h e (by simp)];omega),h e (by simp)] at hx
   obtain⟨e',h1,h2⟩:=ih (fun x hx=>h x (by simp [hx])) hx
   refine⟨e', ?_, ?_⟩
   ·have:k / sz=(k - sz) / sz+1:=by
     rw [← Nat.sub_add_cancel (show sz≤k by omega),Nat.add_div_right _ hp];simp
    rw [this];simpa using h1
   ·rw [Ae (by omega)];exact h2
theorem uN (h:b7 w0 ι ψ S w){x:AV}{c:Value}{cs:List AV} (hx:VR ι ψ x c) (hp:sZ S x=some cs) :
  ∃ ad:Addr,ad.spot=none∧c=.pointer (some ad)∧∀ (j:Nat) (y:AV),cs[j]? = some y→y.leaf=true∧∃ v,w.cell? ⟨ad.block,ad.off+j,none⟩=some v∧VR ι ψ y v:=by
 cases hx with
 | own a off pl hpl =>
  simp only [sZ] at hp
  split at hp
  ·next cs' ty hS =>
   simp at hp;subst hp
   obtain⟨_,⟨c,T,hc,hcl,hcv⟩,_⟩:=h.blk a _ pl hS hpl
   refine⟨_,rfl,rfl,fun j y e=>?_⟩
   rw [bQ] at e
   obtain⟨hl,v,hv,hr⟩:=hcv _ y e
   exact⟨hl,v,by simp [jx,hc,hv],hr⟩
  ·cases hp
 | pro cs' b o cv h1 h2 =>
  simp [sZ] at hp;subst hp
  exact⟨_,rfl,rfl,fun j y e=>⟨(h1 j y e).1,cv j,h.psi _ _ _ (h1 j y e).2,h2 j y e⟩⟩
 | oel a g i off ad pl hpl hg hs =>
  simp only [sZ] at hp
  split at hp
  ·next e' sz fz g' els hS =>
   split at hp
   ·next hgg =>
    obtain⟨⟨hgen,hpsz⟩,hsz,hpos,hfz,⟨xs,hown,hxs⟩,_⟩:=h.blk a _ pl hS hpl
    obtain⟨b,hb,rfl⟩:=hs (by rw [hgen,hgg])
    cases he:els[i]? with
    | none=>simp [he] at hp
    | some e =>
     simp [he] at hp;subst hp
     refine⟨_,rfl,rfl,fun j y ey=>?_⟩
     rw [bQ] at ey
     obtain⟨hl,v,hv,hr,_⟩:=hxs _ y (iz hsz he ey)
     refine⟨hl,v, ?_,hr⟩
     have:=hown.cells hb _ v hv
     rw [hpsz,qK]
     simpa [Addr.add_lit] using this
   ·cases hp
  ·cases hp
 | _=>simp [sZ] at hp
end Go.Fen
namespace Go.Fen
open Go.RowKit
variable {P:Program}{w0 w w':World}{ι:List Pl}{ψ:cX}{S:List ax}
def jX (ag:Bool) (n:Nat) (cs:List AV):Option AV:=if ag then (if n≤cs.length then some (.agg (cs.take n)) else none) else cs.head?
def qh (P:Program) (S:List ax) (t:TypeId) (x:AV):Option AV :=
 match j_ P t,dG P t,sZ S x with
 | some ag,some n,some cs=>jX ag n cs
 | _,_,_=>none
theorem nr (h:b7 w0 ι ψ S w){t:TypeId}{x y:AV}{c:Value} (hx:VR ι ψ x c) (he:qh P S t x=some y) :
  ∃ cv,(kX t c).run P w=.ok cv w∧VR ι ψ y cv:=by
 unfold qh at he
 split at he
 ·next ag n cs hag hn hp =>
  obtain⟨⟨b,o,sp⟩,hsp,rfl,hcs⟩:=uN h hx hp
  simp only at hsp hcs
  subst hsp
  cases ag with
  | true =>
   simp only [jX,if_true] at he
   split at he
   ·next hle =>
    simp at he;subst he
    have hf:∀ j,j<n→w.cell? ((⟨b,o,none⟩:Addr).add j)=some ((w.cell? ⟨b,o+j,none⟩).getD undef):=by
     intro j hj
     obtain⟨_,v,hv,_⟩:=hcs j cs[j] (by simp [show j<cs.length by omega])
     rw [Addr.add_lit,hv];rfl
    refine⟨.agg (bE (fun j=>(w.cell? ⟨b,o+j,none⟩).getD undef) (bC n)).toArray,by simp [kX,cQ,loadVar,kY hag,bP hn,run_loadCells w ⟨b,o,none⟩ n _ hf], ?_⟩
    refine .agg _ _ (by simp;omega) fun j z v h1 h2=>?_
    have hj:j<n:=by
     have:=(bO.1 h2).1;simpa using this
    rw [aV,if_pos hj] at h1
    obtain⟨_,v',hv',hr⟩:=hcs j z h1
    simp [hj,hv'] at h2
    subst h2;exact hr
   ·cases he
  | false =>
   simp [jX] at he
   obtain⟨_,v,hv,hr⟩:=hcs 0 y (by rw [← List.head?_eq_getElem?];exact he)
   refine⟨v, ?_,hr⟩
   simp only [kf] at hv
   simp [kX,cQ,loadVar,kY hag,hv]
 ·cases he
def mz (P:Program) (s:TypeId) (f:Nat):Option Nat :=
 match P.underlying s with
 | some (.struct fs)=>match fs[f]? with
  | some fd=>match dG P fd.type with
   | some (_+1)=>some fd.offset
   | _=>none
  | none=>none
 | _=>none
def kz:AV→Nat→Option AV
 | .own a off,k=>some (.own a (off+k))
 | .oel a g i off,k=>some (.oel a g i (off+k))
 | .pro cs,k=>some (.pro (cs.drop k))
 | _,_=>none
theorem mg {x y:AV}{c:Value}{k:Nat} (hx:VR ι ψ x c) (he:kz x k=some y):∃ ad,c=.pointer (some ad)∧VR ι ψ y (.pointer (some (ad.add k))):=by
 cases hx with
 | own a off pl h =>
  simp [kz] at he;subst he
  exact⟨_,rfl,by rw [Addr.add_lit];exact .own a _ pl h⟩
 | oel a g i off ad pl h hg hs =>
  simp [kz] at he;subst he
  refine⟨_,rfl,.oel a g i _ _ pl h hg fun e=>?_⟩
  obtain⟨b,hb,rfl⟩:=hs e
  exact⟨b,hb,by rw [Addr.add_lit,qK]⟩
 | pro cs b o cv h1 h2 =>
  simp [kz] at he;subst he
  refine⟨_,rfl, ?_⟩
  rw [Addr.add_lit]
  refine .pro _ b (o+k) (fun j=>cv (k+j)) (fun j x e=>?_) (fun j x e=>?_)
  ·rw [bQ] at e
   rw [qK];exact h1 _ _ e
  ·rw [bQ] at e
   exact h2 _ _ e
 | _=>simp [kz] at he
def rR (P:Program) (s:TypeId) (x:AV) (f:Nat):Option AV :=
 match mz P s f with
 | some k=>kz x k
 | none=>none
theorem rQ {s:TypeId}{x y:AV}{c:Value}{f:Nat} (hx:VR ι ψ x c) (he:rR P s x f=some y):∃ cv,(CL s c f).run P w=.ok cv w∧VR ι ψ y cv:=by
 unfold rR at he
 split at he
 ·next k hk =>
  obtain⟨ad,rfl,hr⟩:=mg hx he
  unfold mz at hk
  split at hk
  ·next fs hu =>
   split at hk
   ·next fd hfd =>
    split at hk
    ·next n hn =>
     simp at hk;subst hk
     exact⟨_,by simp [CL,run_underlying hu,hfd,cQ,fieldPlace,bP hn],hr⟩
    ·cases hk
   ·cases hk
  ·cases hk
 ·cases he
theorem io {t:TypeId}{ag:Bool}{n:Nat} (hag:j_ P t=some ag) (hn:dG P t=some n){cs:List AV}{vs:Array Value} (hl:cs.length=vs.size)
  (h:∀ (j:Nat) (x:AV),cs[j]? = some x→∃ v,vs[j]? = some v∧VR ι ψ x v) (off:Nat){y:AV} (he:jX ag n (cs.drop off)=some y) :
  ∃ cv,(part t vs off).run P w=.ok cv w∧VR ι ψ y cv:=by
 cases ag with
 | true =>
  simp only [jX,if_true] at he
  split at he
  ·next hle =>
   simp at he;subst he
   simp only [kV] at hle
   refine⟨.agg (vs.extract off (off+n)),by simp [part,kY hag,bP hn],.agg _ _ ?_ fun j x v h1 h2=>?_⟩
   ·simp only [oe,kV,Array.size_extract];omega
   ·rw [aV] at h1
    split at h1
    ·rw [bQ] at h1
     obtain⟨v',hv',hr⟩:=h _ x h1
     rw [Array.getElem?_extract] at h2
     split at h2
     ·rw [hv'] at h2;cases h2;exact hr
     ·cases h2
    ·cases h1
  ·cases he
 | false =>
  simp [jX,List.head?_drop] at he
  obtain⟨v,hv,hr⟩:=h off y he
  exact⟨v,by simp [part,kY hag,hv],hr⟩
def rP (P:Program) (t:TypeId) (x:AV) (f:Nat):Option AV :=
 match P.underlying t,x with
 | some (.struct fs),.agg cs=>match fs[f]? with
  | some fd=>match j_ P fd.type,dG P fd.type with
   | some ag,some n=>jX ag n (cs.drop fd.offset)
   | _,_=>none
  | none=>none
 | _,_=>none
theorem rO {t:TypeId}{x y:AV}{c:Value}{f:Nat} (hx:VR ι ψ x c) (he:rP P t x f=some y):∃ cv,(Instr.field t c f).run P w=.ok cv w∧VR ι ψ y cv:=by
 unfold rP at he
 split at he
 ·next fs cs hu =>
  split at he
  ·next fd hfd =>
   split at he
   ·next ag n hag hn =>
    obtain⟨vs,rfl,hl,hv⟩:=hx.agg_inv
    obtain⟨cv,hr,hy⟩:=io (w:=w) hag hn hl hv fd.offset he
    exact⟨cv,by simp [Instr.field,run_underlying hu,hfd,asAgg,hr],hy⟩
   ·cases he
  ·cases he
 ·cases he
def rI (P:Program) (t:TypeId) (x ix:AV):Option AV :=
 match P.underlying t,x,ix with
 | some .string,.str s,.int _ i=>if 0≤i then (s[i.toNat]?).map (fun b=>.int .u8 b.toNat) else none
 | some (.array len e),.agg cs,.int _ i=>if 0≤i∧i<len then (match j_ P e,dG P e with
  | some ag,some n=>jX ag n (cs.drop (i.toNat * n))
  | _,_=>none) else none
 | _,_,_=>none
theorem rH {t:TypeId}{x ix y:AV}{c d:Value} (hx:VR ι ψ x c) (hi:VR ι ψ ix d) (he:rI P t x ix=some y):∃ cv,(vL t c d).run P w=.ok cv w∧VR ι ψ y cv:=by
 unfold rI at he
 split at he
 ·next s k i hu =>
  obtain rfl:=hx.str_inv
  obtain rfl:=hi.int_inv
  split at he
  ·next h0 =>
   cases hs:s[i.toNat]? with
   | none=>simp [hs] at he
   | some b =>
    simp [hs] at he;subst he
    refine⟨_, ?_,.int _ _⟩
    have hb:(⟨s.toArray⟩:ByteArray)[i.toNat]? = some b:=by
     have hlt:=(ab.1 hs).1
     have hlt':i.toNat<(⟨s.toArray⟩:ByteArray).size:=by simpa [ByteArray.size] using hlt
     rw [ByteArray.getElem?_lt' _ _ hlt']
     have:=(ab.1 hs).2
     simp [ByteArray.getElem_eq_getElem_data,this]
    simp [vL,asIntOf,run_underlying hu,h0,hb]
  ·cases he
 ·next len e cs k i hu =>
  obtain⟨vs,rfl,hl,hv⟩:=hx.agg_inv
  obtain rfl:=hi.int_inv
  split at he
  ·next h0 =>
   split at he
   ·next ag n hag hn =>
    obtain⟨cv,hr,hy⟩:=io (w:=w) hag hn hl hv _ he
    exact⟨cv,by simp [vL,asIntOf,run_underlying hu,h0,bP hn,hr],hy⟩
   ·cases he
  ·cases he
 ·cases he
def lL (P:Program) (S:List ax) (t:TypeId) (x ix:AV):Option AV :=
 match P.underlying t,x,ix with
 | some (.slice e),.sval _ els,.int _ i=>if 0≤i then (match els[i.toNat]? with
  | some el=>if dG P e=some el.cells.length then some (.pro el.cells) else none
  | none=>none) else none
 | some (.slice e),.sown a g n,.int _ i=>if 0≤i∧i<n then (match S[a]? with
  | some (.arr _ sz _ g' els)=>if g=g'∧n=els.length∧dG P e=some sz then some (.oel a g i.toNat 0) else none
  | _=>none) else none
 | some (.array len e),x,.int _ i=>if 0≤i∧i<len then (match dG P e with
  | some n=>kz x (i.toNat * n)
  | none=>none) else none
 | _,_,_=>none
theorem rJ (h:b7 w0 ι ψ S w){t:TypeId}{x ix y:AV}{c d:Value} (hx:VR ι ψ x c) (hi:VR ι ψ ix d) (he:lL P S t x ix=some y):∃ cv,(l4 t c d).run P w=.ok cv w∧VR ι ψ y cv:=by
 unfold lL at he
 split at he
 ·next e full els k i hu =>
  obtain rfl:=hi.int_inv
  split at he
  ·next h0 =>
   split at he
   ·next el hel =>
    split at he
    ·next hse =>
     simp at he;subst he
     have hlt:=(ab.1 hel).1
     cases hx with
     | sval sz _ _ b o cap cv hsz hcap hf h1 h2 =>
      have hs:=hsz _ _ hel
      rw [hs] at hse
      refine⟨.pointer (some ⟨b,o+i.toNat * sz,none⟩), ?_,.pro _ _ _ (fun j=>cv i.toNat j) (fun j x e=>h1 _ _ _ _ hel e) (fun j x e=>h2 _ _ _ _ hel e)⟩
      have hb:0≤i∧i<(els.length:Int):=⟨h0,by omega⟩
      simp [l4,asIntOf,run_underlying hu,bP hse,hb,Addr.add_lit]
     | svnil=>simp at hel
    ·cases he
   ·cases he
  ·cases he
 ·next e a g n k i hu =>
  obtain rfl:=hi.int_inv
  split at he
  ·next h0 =>
   split at he
   ·next e' sz fz g' els hS =>
    split at he
    ·next hg =>
     obtain⟨rfl,rfl,hsz⟩:=hg
     simp at he;subst he
     cases hx with
     | sown _ _ _ ad cap pl hpl hgl hs =>
      obtain⟨⟨hgen,hpsz⟩,_,_,_,⟨xs,hown,hxs⟩,_⟩:=h.blk a _ pl hS hpl
      have hsv:=hs hgen.symm
      rcases hown.2 with⟨hn,hn0⟩ | ⟨b,cap',cur,hv,hb,hgg,_⟩
      ·omega
      ·rw [hv] at hsv
       cases hsv
       refine⟨.pointer (some ⟨b,0+i.toNat * sz,none⟩), ?_,.oel a g _ 0 _ pl hpl hgl fun _=>⟨b,by rw [hv];rfl,by rw [hpsz];simp⟩⟩
       simp [l4,asIntOf,run_underlying hu,bP hsz,h0,Addr.add_lit]
    ·cases he
   ·cases he
  ·cases he
 ·next len e x k i hu =>
  obtain rfl:=hi.int_inv
  split at he
  ·next h0 =>
   split at he
   ·next n hn =>
    obtain⟨ad,rfl,hr⟩:=mg hx he
    exact⟨_,by simp [l4,asIntOf,run_underlying hu,cQ,bP hn,h0],hr⟩
   ·cases he
  ·cases he
 ·cases he
end Go.Fen
namespace Go.Fen
open Go.RowKit
variable {P:Program}{w0 w w':World}{ι:List Pl}{ψ:cX}{S:List ax}
def pD (ι:List Pl) (ψ:cX):Option AV→Option Value→Prop
 | none,none=>True
 | some x,some c=>VR ι ψ x c
 | _,_=>False
def j9 (x:Option AV) (dflt y:Nat):Option Nat :=
 match x with
 | none=>some dflt
 | some (.int _ i)=>if 0≤i∧i≤(y:Int) then some i.toNat else none
 | _=>none
theorem js {x:Option AV}{c:Option Value}{dflt y z:Nat}{n:Nat} (hx:pD ι ψ x c) (hy:y≤z) (h:j9 x dflt y=some n) :
  (c=none∧x=none∧n=dflt)∨(∃ k i,c=some (.int k i)∧n≤y∧∀ (code:BoundsCode) (w:World),(Cm (.int k i) z code).run P w=.ok n w):=by
 cases x with
 | none =>
  cases c with
  | none=>simp [j9] at h;exact .inl ⟨rfl,rfl,h.symm⟩
  | some c=>exact hx.elim
 | some x =>
  cases c with
  | none=>exact hx.elim
  | some c =>
   cases x<;>simp [j9] at h
   next k i =>
   obtain⟨⟨h0,h1⟩,rfl⟩:=h
   have:=VR.int_inv hx
   subst this
   have h2:i≤(z:Int):=by omega
   refine .inr ⟨_,_,rfl,by omega,fun code w=>?_⟩
   simp [Cm,asIntOf,h0,h2]
def qY (P:Program) (t:TypeId) (x:AV) (lo hi mx:Option AV):Option AV :=
 match P.underlying t,x,mx with
 | some .string,.str s,none =>
  match j9 hi s.length s.length with
  | some h=>match j9 lo 0 h with
   | some l=>some (.str ((s.take h).drop l))
   | none=>none
  | none=>none
 | some (.slice e),.sval full els,none =>
  match dG P e with
  | some n=>if els.all (fun el=>el.cells.length==n)=true then
   match j9 hi els.length els.length with
   | some h=>match j9 lo 0 h with
    | some l=>some (.sval (full&&h==els.length) ((els.take h).drop l))
    | none=>none
   | none=>none
   else none
  | none=>none
 | some (.slice e),.sval _ els,some m =>
  match dG P e with
  | some n=>if els.all (fun el=>el.cells.length==n)=true∧hi.isSome=true then
   match j9 (some m) 0 els.length with
   | some m=>match j9 hi 0 m with
    | some h=>match j9 lo 0 h with
     | some l=>some (.sval (h==m) ((els.take h).drop l))
     | none=>none
    | none=>none
   | none=>none
   else none
  | none=>none
 | some (.array n e),.pro cs,none=>if dG P e=some 1∧cs.length=n∧cs.all AV.leaf=true∧lo.isNone=true∧hi.isNone=true then some (.sval true cs) else none
 | _,_,_=>none
theorem nB {lo hi:Option AV}{clo chi:Option Value}{len cap y h l:Nat} (b:Bool) (hlo:pD ι ψ lo clo) (hhi:pD ι ψ hi chi) (hy:y≤cap)
  (h1:j9 hi len y=some h) (h2:j9 lo 0 h=some l):(dD b len cap clo chi none).run P w=.ok (l,h,cap) w:=by
 rcases js (P:=P) hhi hy h1 with⟨rfl,_,rfl⟩ | ⟨k,i,rfl,_,hr⟩<;>rcases js (P:=P) hlo (aP _) h2 with⟨rfl,_,rfl⟩ | ⟨k',i',rfl,_,hr'⟩ <;>
  cases b<;>simp_all [dD]
theorem t8 {m':AV}{lo hi:Option AV}{clo chi:Option Value}{cm:Value}{len cap y m h l:Nat} (b:Bool) (hlo:pD ι ψ lo clo) (hhi:pD ι ψ hi chi) (hs:hi.isSome=true) (hm:VR ι ψ m' cm) (hy:y≤cap)
  (h0:j9 (some m') 0 y=some m) (h1:j9 hi 0 m=some h) (h2:j9 lo 0 h=some l):(dD b len cap clo chi (some cm)).run P w=.ok (l,h,m) w:=by
 have hm':pD ι ψ (some m') (some cm):=hm
 rcases js (P:=P) hm' hy h0 with⟨hc,_⟩ | ⟨k0,i0,hc,_,hr0⟩
 ·cases hc
 ·cases hc
  rcases js (P:=P) hhi (aP _) h1 with⟨rfl,hn,rfl⟩ | ⟨k,i,rfl,_,hr⟩
  ·rw [hn] at hs;cases hs
  ·rcases js (P:=P) hlo (aP _) h2 with⟨rfl,_,rfl⟩ | ⟨k',i',rfl,_,hr'⟩ <;>
   cases b<;>simp_all [dD]
theorem py {x:Option AV}{dflt y n:Nat} (h:j9 x dflt y=some n):n=dflt∨n≤y:=by
 unfold j9 at h
 split at h
 ·simp at h;exact .inl h.symm
 ·split at h
  ·simp at h;right;omega
  ·cases h
 ·cases h
theorem VR.part {n:Nat}{full:Bool}{els:List AV}{a:Option Addr}{len cap l h m:Nat}{f':Bool} (hx:VR ι ψ (.sval full els) (.slice a len cap)) (hn:els.all (fun el=>el.cells.length==n)=true) (hl:l≤h) (hh:h≤els.length) (hm:h≤m) (hmc:m≤cap) (hf:f'=true→m=h) :
  VR ι ψ (.sval f' ((els.take h).drop l)) (.slice (if m=l then a else a.map (·.add (l * n))) (h - l) (m - l)):=by
 cases hx with
 | svnil =>
  simp only [aU] at hh
  have h0:m=0:=by omega
  have h1:l=0:=by omega
  have h2:h=0:=by omega
  subst h0 h1 h2
  simpa using VR.svnil f'
 | sval sz _ _ b o _ cv hsz hcap hf0 h1 h2 =>
  have hlen:((els.take h).drop l).length=h - l:=by simp;omega
  have hget:∀ (i:Nat) (e:AV),((els.take h).drop l)[i]? = some e→els[l+i]? = some e:=by
   intro i e he
   rw [bQ,aV] at he
   split at he
   ·exact he
   ·cases he
  by_cases hml:m=l
  ·have h0:h - l=0:=by omega
   have hnil:(els.take h).drop l=[]:=bo (by omega)
   rw [if_pos hml,hnil,h0]
   have:=VR.sval (ι:=ι) (ψ:=ψ) n f' [] b o (m - l) (fun _ _=>undef) (by simp) (by simp) (fun e=>by have:=hf e;simp;omega) (by simp) (by simp)
   simpa using this
  ·rw [if_neg hml]
   simp only [cu,Addr.add_lit]
   by_cases hnil:(els.take h).drop l=[]
   ·rw [hnil]
    have h0:h - l=0:=by rw [← hlen,hnil];rfl
    rw [h0]
    have:=VR.sval (ι:=ι) (ψ:=ψ) n f' [] b (o+l * n) (m - l) (fun _ _=>undef) (by simp) (by simp) (fun e=>by have:=hf e;simp;omega) (by simp) (by simp)
    simpa using this
   ·have hnsz:n=sz:=by
     cases hc:(els.take h).drop l with
     | nil=>exact absurd hc hnil
     | cons e r =>
      have he:=hget 0 e (by rw [hc];rfl)
      have h3:=hsz _ e he
      have h4:=aq.1 hn e (ar he)
      simp at h4;omega
    subst hnsz
    rw [← hlen]
    refine .sval n f' _ b (o+l * n) (m - l) (fun i j=>cv (l+i) j) (fun i e he=>hsz _ e (hget i e he)) (by omega) (fun e=>by have:=hf e;omega) (fun i e j x he hj=>?_) (fun i e j x he hj=>h2 _ e j x (hget i e he) hj)
    have:=h1 _ e j x (hget i e he) hj
    rw [show o+l * n+i * n+j=o+(l+i) * n+j by rw [eE];omega]
    exact this
theorem VR.sval_len {full:Bool}{els:List AV}{c:Value} (hx:VR ι ψ (.sval full els) c):∃ a cap,c=.slice a els.length cap∧els.length≤cap∧(full=true→cap=els.length):=by
 cases hx with
 | svnil=>exact⟨none,0,rfl,aP _,fun _=>rfl⟩
 | sval sz _ _ b o cap cv hsz hcap hf0 h1 h2=>exact⟨_,cap,rfl,hcap,hf0⟩
theorem qX {t:TypeId}{x y:AV}{c:Value}{lo hi mx:Option AV}{clo chi cmx:Option Value} (hx:VR ι ψ x c) (hlo:pD ι ψ lo clo) (hhi:pD ι ψ hi chi) (hmx:pD ι ψ mx cmx)
  (he:qY P t x lo hi mx=some y):∃ cv,(fe t c clo chi cmx).run P w=.ok cv w∧VR ι ψ y cv:=by
 unfold qY at he
 split at he
 ·next s hu =>
  obtain rfl:=hx.str_inv
  cases cmx with
  | some c=>exact hmx.elim
  | none =>
   split at he
   ·next h hh =>
    split at he
    ·next l hl =>
     simp at he;subst he
     have hb:=nB (P:=P) (w:=w) false hlo hhi (aP s.length) hh hl
     refine⟨_,by simp [fe,vK,run_underlying hu,hb,ie];rfl, ?_⟩
     refine .str _ _ ?_
     simp [ByteArray.data_extract,List.drop_take]
    ·cases he
   ·cases he
 ·next e full els hu =>
  cases cmx with
  | some c=>exact hmx.elim
  | none =>
   split at he
   ·next n hse =>
    split at he
    ·next hall =>
     split at he
     ·next h hh =>
      split at he
      ·next l hl =>
       simp at he;subst he
       obtain⟨a,cap,rfl,hcap,hf⟩:=hx.sval_len
       have hb:=nB (P:=P) (w:=w) (len:=els.length) true hlo hhi hcap hh hl
       have h1':h≤els.length:=by rcases py hh with rfl | h<;>omega
       have h2':l≤h:=by rcases py hl with rfl | h<;>omega
       refine⟨_,by simp [fe,vK,run_underlying hu,hb,bP hse];rfl, ?_⟩
       refine VR.part hx hall h2' h1' (by omega) (aP _) (fun e=>?_)
       simp at e
       rw [hf e.1,e.2]
      ·cases he
     ·cases he
    ·cases he
   ·cases he
 ·next e full els m hu =>
  cases cmx with
  | none=>exact hmx.elim
  | some cm =>
   split at he
   ·next n hse =>
    split at he
    ·next hall =>
     split at he
     ·next m' hm =>
      split at he
      ·next h hh =>
       split at he
       ·next l hl =>
        simp at he;subst he
        obtain⟨a,cap,rfl,hcap,hf⟩:=hx.sval_len
        have hb:=t8 (P:=P) (w:=w) (len:=els.length) true hlo hhi hall.2 hmx hcap hm hh hl
        have h0':m'≤els.length:=by rcases py hm with rfl | h<;>omega
        have h1':h≤m':=by rcases py hh with rfl | h<;>omega
        have h2':l≤h:=by rcases py hl with rfl | h<;>omega
        refine⟨_,by simp [fe,vK,run_underlying hu,hb,bP hse];rfl, ?_⟩
        exact VR.part hx hall.1 h2' (by omega) h1' (by omega) (fun e=>by simp at e;omega)
       ·cases he
      ·cases he
     ·cases he
    ·cases he
   ·cases he
 ·next n e cs hu =>
  cases cmx with
  | some c=>exact hmx.elim
  | none =>
   split at he
   ·next hall =>
    obtain⟨hs,hl,hlf,hlo0,hhi0⟩:=hall
    obtain rfl:lo=none:=by simpa using hlo0
    obtain rfl:hi=none:=by simpa using hhi0
    obtain rfl:clo=none:=by cases clo with
     | none=>rfl
     | some c=>exact hlo.elim
    obtain rfl:chi=none:=by cases chi with
     | none=>rfl
     | some c=>exact hhi.elim
    simp at he;subst he
    cases hx with
    | pro _ b off cv h1 h2 =>
     have hres:(fe t (.pointer (some ⟨b,off,none⟩)) none none none).run P w=.ok (.slice (some ⟨b,off,none⟩) n n) w:=by
      by_cases hn:n=0
      ·subst hn
       simp [fe,cQ,run_underlying hu,dD,bP hs]
      ·simp [fe,cQ,run_underlying hu,dD,bP hs,hn,Addr.add_lit]
     refine⟨_,hres, ?_⟩
     have hc1:∀ (i:Nat) (y z:AV) (j:Nat),cs[i]? = some y→y.cells[j]? = some z→j=0∧z=y:=by
      intro i y z j hy hz
      have hyl:=aq.1 hlf y (ar hy)
      have:y.cells=[y]:=by cases y<;>first | rfl | cases hyl
      rw [this] at hz
      cases j with
      | zero=>exact⟨rfl,by simpa using hz.symm⟩
      | succ j=>simp at hz
     rw [← hl]
     refine .sval 1 true cs b off cs.length (fun i _=>cv i) (fun i y hy=>?_) (aP _) (fun _=>rfl) (fun i y j z hy hz=>?_) (fun i y j z hy hz=>?_)
     ·have hyl:=aq.1 hlf y (ar hy)
      cases y<;>first | rfl | cases hyl
     ·obtain⟨rfl,rfl⟩:=hc1 i y z j hy hz
      have:=h1 i z hy
      rw [Nat.mul_one,kf]
      exact this
     ·obtain⟨rfl,rfl⟩:=hc1 i y z j hy hz
      exact h2 i z hy
   ·cases he
 ·cases he
def k_ (op:BinOp) (k:IntKind) (a b:Int):Option AV :=
 match op with
 | .add=>some (.int k (k.wrap (a+b)))
 | .sub=>some (.int k (k.wrap (a - b)))
 | .mul=>some (.int k (k.wrap (a * b)))
 | .quo=>if b=0 then none else some (.int k (k.wrap (a.tdiv b)))
 | .rem=>if b=0 then none else some (.int k (a.tmod b))
 | .and=>some (.int k (k.wrap ((ai k.bits a &&& ai k.bits b).toNat)))
 | .or=>some (.int k (k.wrap ((ai k.bits a ||| ai k.bits b).toNat)))
 | .xor=>some (.int k (k.wrap ((ai k.bits a ^^^ ai k.bits b).toNat)))
 | .andNot=>some (.int k (k.wrap ((ai k.bits a &&& ~~~ ai k.bits b).toNat)))
 | .eql=>some (.bool (a==b))
 | .neq=>some (.bool (a != b))
 | .lss=>some (.bool (decide (a<b)))
 | .leq=>some (.bool (decide (a≤b)))
 | .gtr=>some (.bool (decide (b<a)))
 | .geq=>some (.bool (decide (b≤a)))
 | _=>none
def nX (op:BinOp) (a b:List UInt8):Option AV :=
 match op with
 | .add=>if a.length+b.length≤9223372036854775807 then some (.str (a++b)) else none
 | .eql=>some (.bool (a==b))
 | .neq=>some (.bool (!(a==b)))
 | .lss=>some (.bool (od a b))
 | .leq=>some (.bool (od a b||a==b))
 | .gtr=>some (.bool (!(od a b||a==b)))
 | .geq=>some (.bool (!(od a b)))
 | _=>none
def qZ (op:BinOp) (k:IntKind) (a b:Int):Option AV :=
 if b<0 then none else
 match op with
 | .shl=>some (.int k (k.wrap (a * 2 ^ (min b.toNat k.bits))))
 | .shr=>some (.int k (a.fdiv (2 ^ (min b.toNat k.bits))))
 | _=>none
def ny (eq:TypeId→AV→AV→Option Bool) (P:Program) (xs ys:List AV):List Field→Option Bool
 | []=>some true
 | f::fs =>
  if f.name = "_" then ny eq P xs ys fs else
  match j_ P f.type,dG P f.type with
  | some ag,some n=>match jX ag n (xs.drop f.offset),jX ag n (ys.drop f.offset) with
   | some a,some b=>match eq f.type a b,ny eq P xs ys fs with
    | some b1,some b2=>some (b1&&b2)
    | _,_=>none
   | _,_=>none
  | _,_=>none
def xY (P:Program):Nat→TypeId→AV→AV→Option Bool
 | 0,_,_,_=>none
 | d+1,t,x,y =>
  match P.underlying t,x,y with
  | some .bool,.bool a,.bool b=>some (a==b)
  | some (.int _),.int k a,.int k' b=>if k=k' then some (a==b) else none
  | some .string,.str a,.str b=>some (a==b)
  | some (.struct fs),.agg xs,.agg ys=>if P.stoodInHeld t then none else ny (xY P d) P xs ys fs.toList
  | _,_,_=>none
theorem m7:∀ (d:Nat) (t:TypeId) (x y:AV) (c e:Value) (r:Bool),VR ι ψ x c→VR ι ψ y e→xY P d t x y=some r→∀ (k:Nat) (w:World),(eC (d+k) t c e).run P w=.ok r w:=by
 intro d
 induction d with
 | zero=>intro t x y c e r _ _ h;simp [xY] at h
 | succ d ih =>
  intro t x y c e r hx hy h k w
  rw [show d+1+k=(d+k)+1 by omega]
  simp only [xY] at h
  split at h
  ·next a b hu =>
   obtain rfl:=hx.bool_inv;obtain rfl:=hy.bool_inv
   simp at h;subst h
   exact run_equalIn_bool w _ t a b hu
  ·next k1 k2 a k3 b hu =>
   obtain rfl:=hx.int_inv;obtain rfl:=hy.int_inv
   split at h
   ·next hk =>
    subst hk
    simp at h;subst h
    exact run_equalIn_int w _ t k2 k1 a b hu
   ·cases h
  ·next a b hu =>
   obtain rfl:=hx.str_inv;obtain rfl:=hy.str_inv
   simp at h;subst h
   rw [run_equalIn_string w _ t _ _ hu];simp
  ·next fs xs ys hu =>
   obtain⟨vx,rfl,hlx,hvx⟩:=hx.agg_inv
   obtain⟨vy,rfl,hly,hvy⟩:=hy.agg_inv
   split at h
   ·cases h
   ·next hp =>
    have hfs:P.fieldsOf t=fs:=by simp [Program.fieldsOf,hu]
    rw [run_equalIn_struct w _ t vx vy (by rw [hfs];exact hu) (by simpa using hp),hfs]
    clear hfs hu
    generalize fs.toList=l at h
    induction l generalizing w with
    | nil=>simp [ny] at h;subst h;simp [Op.eqFields]
    | cons f fs ihl =>
     simp only [ny] at h
     simp only [Op.eqFields]
     by_cases hn:f.name = "_"
     ·rw [if_pos hn] at h
      simp only [hn,ne_eq,not_true_eq_false,if_false]
      exact ihl w h
     ·rw [if_neg hn] at h
      simp only [ne_eq,hn,not_false_eq_true,if_true]
      split at h
      ·next ag n hag hsn =>
       split at h
       ·next a b ha hb =>
        obtain⟨ca,hra,hva⟩:=io (P:=P) (w:=w) hag hsn hlx hvx _ ha
        obtain⟨cb,hrb,hvb⟩:=io (P:=P) (w:=w) hag hsn hly hvy _ hb
        simp only [bu,hra,hrb,bB]
        split at h
        ·next b1 b2 he h2 =>
         rw [ih _ _ _ _ _ _ hva hvb he k w]
         simp at h
         subst h
         cases b1 with
         | true=>simpa using ihl w h2
         | false=>simp
        ·cases h
       ·cases h
      ·cases h
  ·cases h
end Go.Fen
namespace Go.Fen
open Go.RowKit
variable {P:Program}{w0 w w':World}{ι:List Pl}{ψ:cX}{S:List ax}
def mt:Operand→Bool
 | .const _=>true
 | _=>false
def BR (P:Program) (t:TypeId) (ox oy:Operand) (x y:AV):Option Bool :=
 match P.underlying t,x,y with
 | some .bool,.bool a,.bool b=>some (a==b)
 | some (.struct _),.agg xs,.agg ys=>if P.eqGuardType P.depth t=false then xY P 9 t (.agg xs) (.agg ys) else none
 | some (.slice _),.snil,.snil=>some true
 | some (.slice _),.sval _ (_::_),.snil=>some false
 | some (.pointer _),.nilp,.nilp=>some true
 | some (.pointer _),.own ..,.nilp | some (.pointer _),.pro ..,.nilp | some (.pointer _),.nilp,.own .. | some (.pointer _),.nilp,.pro ..=>some false
 | some (.map _ _),.mnil,.mnil=>some true
 | some (.map _ _),.mval ..,.mnil | some (.map _ _),.mown ..,.mnil=>some false
 | some (.func _ _ _),.fnil,.fnil=>some true
 | some (.func _ _ _),.fn ..,.fnil=>some false
 | some (.interface ms),.inil,.inil=>if mt ox||mt oy||ms.isEmpty then some true else none
 | some (.interface _),.ifc ..,.inil | some (.interface _),.inil,.ifc ..=>some false
 | some (.interface _),.ifc t1 v1,.ifc t2 v2=>if t1=t2 then (match P.info? t1 with
  | some i=>if i.comparable=true then xY P 9 t1 v1 v2 else none
  | none=>none) else some false
 | _,_,_=>none
def nl (P:Program) (t:TypeId) (x y:AV):Option Bool :=
 match P.underlying t,x,y with
 | some (.pointer e),.own a o,.own b p=>if a=b∧o=p∧(P.info? e).isSome=true then some true else none
 | _,_,_=>none
def B3 (P:Program) (op:BinOp) (t:TypeId) (ox oy:Operand) (x y:AV):Option AV :=
 match x,y with
 | .int k a,.int k' b =>
  if op=.shl∨op=.shr then qZ op k a b else if k=k' then k_ op k a b else none
 | .str a,.str b=>nX op a b
 | _,_=>match op with
  | .eql=>((BR P t ox oy x y).orElse fun _=>nl P t x y).map .bool
  | .neq=>((BR P t ox oy x y).orElse fun _=>nl P t x y).map (fun b=>.bool (!b))
  | _=>none
def gQ (P:Program) (op:BinOp) (t:TypeId) (ox oy:Operand) (c d:Value) (w:World):Prop:=(eqGuard op t ox oy c d).run P w=.ok () w
theorem fL {op:BinOp}{t:TypeId}{ox oy:Operand}{c d:Value} (h1:¬ (c=.nilIface∧d=.nilIface)) (h2:∀ a b,¬ (c=.agg a∧d=.agg b)):gQ P op t ox oy c d w:=by
 unfold gQ eqGuard
 cases c<;>cases d<;>first | exact absurd ⟨rfl,rfl⟩ h1 | exact absurd ⟨rfl,rfl⟩ (h2 _ _) | (simp;done) | (cases op<;>simp;done)
theorem tC {op:BinOp}{t:TypeId}{ox oy:Operand}{c d:Value} (h:op≠.eql∧op≠.neq):gQ P op t ox oy c d w:=by
 unfold gQ eqGuard
 cases op<;>simp_all
theorem sP {op:BinOp}{k k':IntKind}{a b:Int}{t:TypeId}{y:AV} (hop:op=.shl∨op=.shr) (h:qZ op k a b=some y):∃ cv,(binOp op t (.int k a) (.int k' b)).run P w=.ok cv w∧VR ι ψ y cv:=by
 unfold qZ at h
 split at h
 ·cases h
 ·next hb =>
  rcases hop with rfl | rfl<;>simp at h<;>subst h<;>exact⟨_,by simp [binOp_shl,binOp_shr,Op.shift,hb],.int _ _⟩
theorem rG {op:BinOp}{k:IntKind}{a b:Int}{t:TypeId}{y:AV} (hop:¬ (op=.shl∨op=.shr)) (h:k_ op k a b=some y):∃ cv,(binOp op t (.int k a) (.int k b)).run P w=.ok cv w∧VR ι ψ y cv:=by
 cases op<;>simp [k_] at h<;>(try (obtain⟨h0,h⟩:=h))<;>(try subst h) <;>
  first
  | exact⟨_,by simp [binOp,Op.intArith,Op.intDiv,An,Op.intCmp, *];rfl,by constructor⟩
  | exact⟨_,by simp [binOp,Op.intArith,Op.intDiv,An,Op.intCmp, *],by constructor⟩
  | simp at hop
theorem qS {op:BinOp}{a b:List UInt8}{t:TypeId}{y:AV} (h:nX op a b=some y):∃ cv,(binOp op t (.string ⟨a.toArray⟩) (.string ⟨b.toArray⟩)).run P w=.ok cv w∧VR ι ψ y cv:=by
  cases op<;>simp [nX] at h<;>(try (obtain⟨h0,h⟩:=h))<;>(try subst h) <;>
    first
    | (refine⟨.bool _, ?_,.bool _⟩;simp [binOp,Op.stringOp];done)
    | (refine⟨.string (⟨a.toArray⟩++⟨b.toArray⟩), ?_, ?_⟩
       · rw [binOp_string_add,run_string_add_sum _ _ _ (by simpa [ie] using h0)]
       · rw [ByteArray.mk_append_mk];exact .str' _)
def gz:Value→Value→Bool
 | .int ..,.int .. | .float ..,.float .. | .complex ..,.complex .. | .string ..,.string ..=>false
 | _,_=>true
theorem nN {c d:Value} (h:gz c d=true) (t:TypeId):binOp .eql t c d=(do pure (.bool (← kh t c d))):=by
 cases c<;>cases d<;>first | rfl | (simp [gz] at h)
theorem nM {c d:Value} (h:gz c d=true) (t:TypeId):binOp .neq t c d=(do pure (.bool (!(← kh t c d)))):=by
 cases c<;>cases d<;>first | rfl | (simp [gz] at h)
theorem xC {op:BinOp}{t:TypeId}{ox oy:Operand}{x y:AV}{c d:Value}{b:Bool} (hx:VR ι ψ x c) (hy:VR ι ψ y d) (h:BR P t ox oy x y=some b) :
  (kh t c d).run P w=.ok b w∧gQ P op t ox oy c d w∧gz c d=true:=by
 unfold BR at h
 split at h
 ·next a a' hu =>
  obtain rfl:=hx.bool_inv;obtain rfl:=hy.bool_inv
  simp at h;subst h
  exact⟨run_equal_bool w t a a' hu,fL (by simp) (by simp),rfl⟩
 ·next fs xs ys hu =>
  split at h
  ·next hg =>
   have he:=m7 9 t _ _ c d b hx hy h 9991 w
   obtain⟨vx,rfl,_⟩:=hx.agg_inv;obtain⟨vy,rfl,_⟩:=hy.agg_inv
   refine⟨he, ?_,rfl⟩
   by_cases hop:op=.eql∨op=.neq
   ·exact run_eqGuard_agg w op t ox oy vx vy hg
   ·exact tC (by simpa using hop)
  ·cases h
 case h_15 ms hu =>
  split at h
  ·next hcst =>
   simp at h;subst h
   cases hx;cases hy
   refine⟨(fun n=>by simp [eC,run_underlying hu]:∀ n,(eC (n+1) t .nilIface .nilIface).run P w=.ok true w) 9999, ?_,rfl⟩
   unfold gQ eqGuard
   simp only [ef] at hcst
   rcases hcst with(hcst | hcst) | hcst
   ·cases ox<;>simp [mt] at hcst
    cases op<;>simp
   ·cases oy<;>simp [mt] at hcst
    cases op<;>simp
   ·have hz:ms.isEmpty=true:=hcst
    cases op<;>(first | (simp;done) | (have hk:=(fun n=>by simp [Op.eqGuardIn,run_underlying hu,hz]:∀ n,(Op.eqGuardIn (n+1) t .nilIface .nilIface).run P w=.ok false w) 9999;simp [show Op.maxDepth=9999+1 from rfl,hk]))
  ·cases h
 case h_18 ms t1 v1 t2 v2 hu =>
  cases hx with
  | ifc _ _ c hc =>
  cases hy with
  | ifc _ _ d hd =>
  refine⟨?_,fL (by simp) (by simp),rfl⟩
  split at h
  ·next ht =>
   subst ht
   split at h
   ·next i hi =>
    split at h
    ·next hcmp =>
     have he:=m7 9 t1 _ _ c d b hc hd h 9990 w
     refine(fun n hn=>by simp [eC,run_underlying hu,typeInfo,hi,hcmp,hn]:∀ n,(eC n t1 c d).run P w=.ok b w→(eC (n+1) t (.iface t1 c) (.iface t1 d)).run P w=.ok b w) 9999 he
    ·cases h
   ·cases h
  ·next ht =>
   simp at h;subst h
   exact(fun n=>by simp [eC,run_underlying hu,ht]:∀ n,(eC (n+1) t (.iface t1 c) (.iface t2 d)).run P w=.ok false w) 9999
 all_goals first
  | (cases h;done)
  | (next hu=>simp at h;subst h;cases hx;cases hy;exact⟨(fun n=>by simp [eC,run_underlying hu]:∀ n,(eC (n+1) t _ _).run P w=.ok _ w) 9999,fL (by simp) (by simp),rfl⟩)
theorem sY {op:BinOp}{t:TypeId}{ox oy:Operand}{x y:AV}{c d:Value}{b:Bool} (hx:VR ι ψ x c) (hy:VR ι ψ y d) (h:nl P t x y=some b) :
  (kh t c d).run P w=.ok b w∧gQ P op t ox oy c d w∧gz c d=true:=by
 unfold nl at h
 split at h
 ·next e a o b' p hu =>
  split at h
  ·next hc =>
   obtain⟨rfl,rfl,hi⟩:=hc
   simp at h;subst h
   obtain⟨j,hj⟩:=Option.isSome_iff_exists.1 hi
   cases hx with
   | own _ _ pl hpl =>
    cases hy with
    | own _ _ pl' hpl' =>
     rw [hpl] at hpl';cases hpl'
     refine⟨(fun n=>by simp [eC,run_underlying hu,sizeOf,typeInfo,hj,run_sameAddr_same]:∀ n,(eC (n+1) t _ _).run P w=.ok true w) 9999,fL (by simp) (by simp),rfl⟩
  ·cases h
 ·cases h
theorem qx {op:BinOp}{t:TypeId}{ox oy:Operand}{x y:AV}{c d:Value}{b:Bool} (hx:VR ι ψ x c) (hy:VR ι ψ y d) (h:((BR P t ox oy x y).orElse fun _=>nl P t x y)=some b) :
  (kh t c d).run P w=.ok b w∧gQ P op t ox oy c d w∧gz c d=true:=by
 cases he:BR P t ox oy x y with
 | none=>rw [he] at h;exact sY hx hy (by simpa using h)
 | some b'=>rw [he] at h;simp at h;subst h;exact xC hx hy he
theorem vv {op:BinOp}{t:TypeId}{ox oy:Operand}{x y r:AV}{c d:Value} (hx:VR ι ψ x c) (hy:VR ι ψ y d) (h:B3 P op t ox oy x y=some r) :
  ∃ cv,(do eqGuard op t ox oy c d;binOp op t c d:Sem Value).run P w=.ok cv w∧VR ι ψ r cv:=by
 unfold B3 at h
 split at h
 ·next k a k' b =>
  obtain rfl:=hx.int_inv;obtain rfl:=hy.int_inv
  have hg:gQ P op t ox oy (.int k a) (.int k' b) w:=fL (by simp) (by simp)
  split at h
  ·next hop =>
   obtain⟨cv,hr,hv⟩:=sP (P:=P) (w:=w) (ι:=ι) (ψ:=ψ) (k':=k') (t:=t) hop h
   exact⟨cv,by rw [bu,hg];exact hr,hv⟩
  ·next hop =>
   split at h
   ·next hk =>
    subst hk
    obtain⟨cv,hr,hv⟩:=rG (P:=P) (w:=w) (ι:=ι) (ψ:=ψ) (t:=t) hop h
    exact⟨cv,by rw [bu,hg];exact hr,hv⟩
   ·cases h
 ·next a b =>
  obtain rfl:=hx.str_inv;obtain rfl:=hy.str_inv
  have hg:gQ P op t ox oy (.string ⟨a.toArray⟩) (.string ⟨b.toArray⟩) w:=fL (by simp) (by simp)
  obtain⟨cv,hr,hv⟩:=qS (P:=P) (w:=w) (ι:=ι) (ψ:=ψ) (t:=t) h
  exact⟨cv,by rw [bu,hg];exact hr,hv⟩
 ·split at h
  ·cases he:((BR P t ox oy x y).orElse fun _=>nl P t x y) with
   | none=>rw [he] at h;simp at h
   | some b =>
    rw [he] at h;simp at h;subst h
    obtain⟨hr,hg,hp⟩:=qx (P:=P) (w:=w) (op:=.eql) hx hy he
    refine⟨.bool b, ?_,.bool b⟩
    rw [bu,hg,nN hp]
    simp [hr]
  ·cases he:((BR P t ox oy x y).orElse fun _=>nl P t x y) with
   | none=>rw [he] at h;simp at h
   | some b =>
    rw [he] at h;simp at h;subst h
    obtain⟨hr,hg,hp⟩:=qx (P:=P) (w:=w) (op:=.neq) hx hy he
    refine⟨.bool (!b), ?_,.bool _⟩
    rw [bu,hg,nM hp]
    simp [hr]
  ·cases h
def FG (op:UnOp) (x:AV):Option AV :=
 match op,x with
 | .not,.bool b=>some (.bool (!b))
 | .neg,.int k n=>some (.int k (k.wrap (0 - n)))
 | .xor,.int k n=>k_ .xor k (if k.signed then -1 else k.max) n
 | _,_=>none
theorem wJ {op:UnOp}{x r:AV}{c:Value} (hx:VR ι ψ x c) (h:FG op x=some r):∃ cv,(Op.unary op c).run P w=.ok cv w∧VR ι ψ r cv:=by
 unfold FG at h
 split at h
 ·obtain rfl:=hx.bool_inv
  simp at h;subst h
  exact⟨_,rfl,.bool _⟩
 ·obtain rfl:=hx.int_inv
  simp only [a8] at h;subst h
  exact⟨_,rfl,.int _ _⟩
 ·obtain rfl:=hx.int_inv
  simp [k_] at h;subst h
  exact⟨_,by rw [unary_xor];simp [An],.int _ _⟩
 ·cases h
def xm (P:Program) (e:TypeId):Bool :=
 match P.underlying e with
 | some (.int .u8)=>true
 | _=>false
theorem m6 {e:TypeId} (h:xm P e=true):P.underlying e=some (.int .u8):=by
 unfold xm at h
 split at h
 ·assumption
 ·cases h
def fh:List AV→Option (List UInt8)
 | []=>some []
 | .int .u8 n::r=>(fh r).map (aD n.toNat::·)
 | _=>none
def m5 (P:Program) (T:TypeId) (n:Nat):Bool :=
 (match P.info? T with
 | some i=>i.size != 0
 | none=>false)&&liesAt P P.depth T (n / P.cellsOf T) 0 T 1&&decide (0<n)
def Cz:List Value→Option (List UInt8)
 | []=>some []
 | .int .u8 n::r=>(Cz r).map (aD n.toNat::·)
 | _=>none
def ma (c:Array Value) (n:Nat):Option (List UInt8):=if n≤c.size then Cz (c.toList.take n) else none
def pp (P:Program) (S:List ax) (src dst:TypeId) (x:AV):Option AV :=
 match P.underlying src,P.underlying dst,x with
 | some _,some (.int k),.int _ n=>some (.int k (k.wrap n))
 | some .string,some .string,.str s=>some (.str s)
 | some (.slice e),some .string,.sval _ els=>if xm P e then (fh els).map .str else none
 | some (.slice e),some .string,.snil=>if xm P e then some (.str []) else none
 | some (.slice e),some .string,.sown a g n=>if xm P e then (match S[a]? with
  | some (.arr _ 1 _ g' els)=>if g=g'∧n=els.length then (fh els).map .str else none
  | some (.obj (.cells c _ _))=>if g=0 then (ma c n).map .str else none
  | _=>none) else none
 | some (.pointer t),some .unsafePointer,.own a 0=>match S[a]? with
  | some (.cells cs (some T))=>if t=T∧m5 P T cs.length=true then some (.own a 0) else none
  | _=>none
 | some .unsafePointer,some (.pointer t),.own a 0=>match S[a]? with
  | some (.cells cs (some T))=>if t=T∧m5 P T cs.length=true then some (.own a 0) else none
  | _=>none
 | _,_,_=>none
theorem ib:∀ (els:List AV) (s:List UInt8),fh els=some s→∃ ns:List Int,els=ns.map (AV.int .u8)∧s=ns.map (fun n=>aD n.toNat)
 | [],s,h=>⟨[],rfl,by simp [fh] at h;exact h⟩
 | x::r,s,h=>by
  unfold fh at h
  split at h
  ·simp at *
  ·next n r' heq =>
   cases heq
   cases hr:fh r with
   | none=>simp [hr] at h
   | some s' =>
    simp [hr] at h;subst h
    obtain⟨ns,rfl,rfl⟩:=ib r s' hr
    exact⟨n::ns,rfl,rfl⟩
  ·cases h
theorem sV:∀ (vs:List Value) (s:List UInt8),Cz vs=some s→∃ ns:List Int,vs=ns.map (dn .u8)∧s=ns.map (fun n=>aD n.toNat)
 | [],s,h=>⟨[],rfl,by simp [Cz] at h;exact h⟩
 | x::r,s,h=>by
  unfold Cz at h
  split at h
  ·next e=>cases e
  ·next n r' e =>
   cases e
   cases hr:Cz r with
   | none=>rw [hr] at h;cases h
   | some s' =>
    rw [hr] at h
    cases h
    obtain⟨ns,rfl,rfl⟩:=sV r s' hr
    exact⟨n::ns,rfl,rfl⟩
  ·cases h
theorem vg (ns:List Int) (b:ByteArray):ns.foldl (fun r n=>r.push (aD n.toNat)) b=⟨b.data++(ns.map (fun n=>aD n.toNat)).toArray⟩:=by
 induction ns generalizing b with
 | nil=>simp
 | cons n ns ih=>simp only [ee,ih];simp [ByteArray.push]
theorem nb {ad:Addr} (hsp:ad.spot=none){ns:List Int}{cap:Nat} (h:∀ (j:Nat) (n:Int),ns[j]? = some n→w.cell? ⟨ad.block,ad.off+j,none⟩=some (.int .u8 n)) :
  (Conv.bytesToString (.slice (some ad) ns.length cap)).run P w=.ok (.string ⟨(ns.map (fun n=>aD n.toNat)).toArray⟩) w:=by
 obtain⟨b,o,sp⟩:=ad
 simp only at hsp h
 subst hsp
 have hl:=run_loadCells_list (P:=P) w ⟨b,o,none⟩ (ns.map (dn .u8)) (fun j v hv=>by
  simp only [aF] at hv
  cases hn:ns[j]? with
  | none=>simp [hn] at hv
  | some n=>simp [hn] at hv;subst hv;rw [Addr.add_lit];exact h j n hn)
 rw [aY] at hl
 rw [run_bytesToString w ⟨b,o,none⟩ ns.length cap ns hl,vg]
 simp [jz,eS]
 rfl
theorem tU (h:b7 w0 ι ψ S w){src dst:TypeId}{x r:AV}{c:Value} (hx:VR ι ψ x c) (he:pp P S src dst x=some r):∃ cv,(convert src dst c).run P w=.ok cv w∧VR ι ψ r cv:=by
 unfold pp at he
 split at he
 ·next d k k' n hs hd =>
  obtain rfl:=hx.int_inv
  simp at he;subst he
  exact⟨_,by simp [convert,run_underlying hs,run_underlying hd,Conv.intToInt],.int _ _⟩
 ·next s hs hd =>
  have hx':=hx
  obtain rfl:=hx.str_inv
  simp at he;subst he
  exact⟨_,by simp [convert,run_underlying hs,run_underlying hd],hx'⟩
 ·next e full els hs hd =>
  split at he
  ·next hu =>
   have hu:=m6 hu
   cases hb:fh els with
   | none=>simp [hb] at he
   | some s =>
    simp [hb] at he;subst he
    obtain⟨ns,rfl,rfl⟩:=ib _ _ hb
    generalize hE:ns.map (AV.int .u8)=els at hx
    cases hx with
    | svnil =>
     have:ns=[]:=by simpa using hE
     subst this
     refine⟨_,by rw [run_convert_bytes_string w src dst e _ _ _ hs hu hd];simp [Conv.bytesToString];rfl, ?_⟩
     exact .str _ _ (by simp [jz,eS];rfl)
    | sval sz _ _ b o cap cv hsz hcap hf h1 h2 =>
     subst hE
     have hs1:∀ (j:Nat) (n:Int),ns[j]? = some n→sz=1:=fun j n hn=>by have:=hsz j (.int .u8 n) (by simp [hn]);simpa [AV.cells] using this.symm
     refine⟨_, ?_,.str' _⟩
     rw [run_convert_bytes_string w src dst e _ _ _ hs hu hd]
     rw [show (bE (AV.int aW) ns).length=ns.length by simp]
     refine nb (ad:=⟨b,o,none⟩) rfl fun j n hn=>?_
     have g1:=h1 j (.int .u8 n) 0 (.int .u8 n) (by simp [hn]) rfl
     have g2:=h2 j (.int .u8 n) 0 (.int .u8 n) (by simp [hn]) rfl
     have:=h.psi _ _ _ g1.2
     rw [g2.int_inv,hs1 j n hn] at this
     simpa using this
  ·cases he
 ·next e hs hd =>
  split at he
  ·next hu =>
   have hu:=m6 hu
   simp at he;subst he
   cases hx with
   | snil =>
    refine⟨_,by rw [run_convert_bytes_string w src dst e _ _ _ hs hu hd];simp [Conv.bytesToString];rfl, ?_⟩
    exact .str _ _ (by simp [jz,eS];rfl)
  ·cases he
 ·next e a g n hs hd =>
  split at he
  ·next hu =>
   have hu:=m6 hu
   split at he
   ·next e' fz g' els hS =>
    split at he
    ·next hg =>
     obtain⟨rfl,rfl⟩:=hg
     cases hb:fh els with
     | none=>simp [hb] at he
     | some s =>
      simp [hb] at he;subst he
      obtain⟨ns,rfl,rfl⟩:=ib _ _ hb
      cases hx with
      | sown _ _ _ ad cap pl hpl hgl hs' =>
       obtain⟨⟨hgen,hpsz⟩,hsz,_,_,⟨xs,hown,hxs⟩,_⟩:=h.blk a _ pl hS hpl
       have hsv:=hs' hgen.symm
       rw [run_convert_bytes_string w src dst e _ _ _ hs hu hd]
       have hlen:(bE (AV.int aW) ns).length=ns.length:=by simp
       rcases hown.2 with⟨hn,hn0⟩ | ⟨b,cap',cur,hv,hb',hgg,_⟩
       ·rw [hn] at hsv
        simp only [fo] at hsv
        obtain⟨rfl,h0,rfl⟩:=hsv
        have:ns=[]:=bo (by omega)
        subst this
        refine⟨_,by simp [Conv.bytesToString];rfl, ?_⟩
        exact .str _ _ (by simp [jz,eS];rfl)
       ·rw [hv] at hsv
        simp only [fo] at hsv
        obtain⟨rfl,_,rfl⟩:=hsv
        rw [hlen]
        refine⟨_,nb (ad:=⟨b,0,none⟩) rfl fun j n hn=>?_,.str' _⟩
        have hf:(dg (ns.map (AV.int .u8)))[j]? = some (.int .u8 n):=by
         have:=iz (els:=ns.map (AV.int .u8)) (sz:=1) (by simp [AV.cells]) (i:=j) (j:=0) (e:=.int .u8 n) (x:=.int .u8 n) (by simp [hn]) rfl
         simpa using this
        obtain⟨_,v,hv',hr,_⟩:=hxs j _ hf
        rw [hr.int_inv] at hv'
        have:=hown.cells (g:=b) (by rw [hv];rfl) j _ hv'
        rw [Addr.add_lit] at this
        exact this
    ·cases he
   ·next c e' fz hS =>
    split at he
    ·next hg =>
     subst hg
     unfold ma at he
     split at he
     ·next hle =>
      cases hb:Cz (c.toList.take n) with
      | none=>simp [hb] at he
      | some s =>
       simp [hb] at he;subst he
       obtain⟨ns,hns,rfl⟩:=sV _ _ hb
       cases hx with
       | sown _ _ _ ad cap pl hpl hgl hs' =>
        obtain⟨h0,h1,hok,h3,h4⟩:=h.blk a _ pl hS hpl
        obtain⟨hg0,hs1,n',cap',hsv⟩:=hok rfl
        have hq:=hs' hg0.symm
        rw [hsv] at hq
        cases hq
        have hl:ns.length=n:=by
         have:=congrArg dM hns
         simp at this
         omega
        rw [run_convert_bytes_string w src dst e _ _ _ hs hu hd]
        have hbr:=nb (P:=P) (w:=w) (ad:=⟨pl.blk,0,none⟩) (cap:=cap) rfl (ns:=ns) (fun j m hm=>by
         have hj:=(ab.1 hm).1
         have h5:(c.toList.take n)[j]? = some (.int .u8 m):=by rw [hns,aF,hm];rfl
         rw [aV,if_pos (by omega),a7] at h5
         simp [jx,h1,h5])
        rw [hl] at hbr
        exact⟨_,hbr,.str' _⟩
     ·cases he
    ·cases he
   ·cases he
  ·cases he
 ·next t a hs hd =>
  split at he
  ·next cs T hS =>
   split at he
   ·next hc =>
    obtain⟨rfl,hl⟩:=hc
    simp at he;subst he
    have hx0:=hx
    cases hx with
    | own _ _ pl hpl =>
     obtain⟨h0,⟨c,T',h1,h2,h3⟩,h4,h5⟩:=h.blk a _ pl hS hpl
     obtain⟨c2,hc2⟩:=h5 t rfl
     rw [h1] at hc2;cases hc2
     unfold m5 at hl
     simp only [aj,decide_eq_true_eq] at hl
     cases hi:P.info? t with
     | none=>rw [hi] at hl;simp at hl
     | some i =>
      rw [hi] at hl
      have hsh:w.shape? pl.blk=some (t,cs.length):=by simp [ui,h1,h2]
      exact⟨_,Lib.run_to_unsafe w ⟨pl.blk,0,none⟩ hs hd hi (by simpa using hl.1.1) hsh hl.2,hx0⟩
   ·cases he
  ·cases he
 ·next t a hs hd =>
  split at he
  ·next cs T hS =>
   split at he
   ·next hc =>
    obtain⟨rfl,hl⟩:=hc
    simp at he;subst he
    have hx0:=hx
    cases hx with
    | own _ _ pl hpl =>
     obtain⟨h0,⟨c,T',h1,h2,h3⟩,h4,h5⟩:=h.blk a _ pl hS hpl
     obtain⟨c2,hc2⟩:=h5 t rfl
     rw [h1] at hc2;cases hc2
     unfold m5 at hl
     simp only [aj,decide_eq_true_eq] at hl
     cases hi:P.info? t with
     | none=>rw [hi] at hl;simp at hl
     | some i =>
      rw [hi] at hl
      have hsh:w.shape? pl.blk=some (t,cs.length):=by simp [ui,h1,h2]
      exact⟨_,Lib.run_from_unsafe w ⟨pl.blk,0,none⟩ hs hd hi hsh hl.1.2,hx0⟩
   ·cases he
  ·cases he
 ·cases he
def BD (P:Program) (t:TypeId) (x:AV):Option AV :=
 match P.underlying t,x with
 | some .string,.str s=>some (.int .i64 s.length)
 | some (.array n _),_=>some (.int .i64 n)
 | some (.slice _),.snil=>some (.int .i64 0)
 | some (.slice _),.sval _ els=>some (.int .i64 els.length)
 | some (.slice _),.sown _ _ n=>some (.int .i64 n)
 | some (.map _ _),.mnil=>some (.int .i64 0)
 | some (.map _ _),.mval es=>some (.int .i64 es.length)
 | _,_=>none
theorem u7 (h:b7 w0 ι ψ S w){t ty:TypeId}{x r:AV}{c:Value} (hx:VR ι ψ x c) (he:BD P t x=some r):∃ cv,(Builtin.len_ #[t] ty #[c]).run P w=.ok cv w∧VR ι ψ r cv:=by
 unfold BD at he
 split at he
 ·next s hu =>
  obtain rfl:=hx.str_inv
  simp at he;subst he
  exact⟨_,by simp [Builtin.len_,run_underlying hu,goInt,ie],.int _ _⟩
 ·next n e hu =>
  simp at he;subst he
  exact⟨_,by simp [Builtin.len_,run_underlying hu,goInt],.int _ _⟩
 ·next e hu =>
  simp at he;subst he
  cases hx
  exact⟨_,by simp [Builtin.len_,run_underlying hu,goInt],.int _ _⟩
 ·next e f els hu =>
  simp at he;subst he
  obtain⟨a,cap,rfl,_⟩:=hx.sval_len
  exact⟨_,by simp [Builtin.len_,run_underlying hu,goInt],.int _ _⟩
 ·next e a g n hu =>
  simp at he;subst he
  cases hx
  exact⟨_,by simp [Builtin.len_,run_underlying hu,goInt],.int _ _⟩
 ·next k e hu =>
  simp at he;subst he
  cases hx
  exact⟨_,by simp [Builtin.len_,run_underlying hu,goInt],.int _ _⟩
 ·next k e es hu =>
  simp at he;subst he
  cases hx with
  | mval _ l b ck me hb hp hl hn h1 h2 =>
   obtain⟨hck,_⟩:=h.psim b me ck hb
   refine⟨.int .i64 me.size, ?_,by rw [← hp.length_eq,hl];exact .int _ _⟩
   simp [Builtin.len_,run_underlying hu,goInt,getObj,kg,hck]
 ·cases he
end Go.Fen
namespace Go.Fen
open Go.RowKit Go.MapKept
variable {P:Program}{w0 w w':World}{ι:List Pl}{ψ:cX}{S:List ax}
def iv (P:Program) (kt:TypeId) (k:AV):Bool :=
 match P.underlying kt,k with
 | some (.int j),.int j' _=>decide (j'=j)
 | some .string,.str _=>true
 | some .bool,.bool _=>true
 | _,_=>false
def dp (P:Program):List Field→Nat→List AV→Bool
 | [],_,[]=>true
 | f::fs,i,x::xs=>(f.name != "_")&&(decide (f.offset=i)&&(iv P f.type x&&(decide (dG P f.type=some 1)&&dp P fs (i+1) xs)))
 | _,_,_=>false
def dW (P:Program) (kt:TypeId) (k:AV):Bool:=iv P kt k||(match P.underlying kt,k with
 | some (.struct fs),.agg cs=>!P.stoodInHeld kt&&dp P fs.toList 0 cs
 | _,_=>false)
def pW (x y:AV):Bool :=
 match x,y with
 | .int _ a,.int _ b=>a==b
 | .str a,.str b=>a==b
 | .bool a,.bool b=>a==b
 | _,_=>false
def oW:List AV→List AV→Bool
 | [],[]=>true
 | x::xs,y::ys=>pW x y&&oW xs ys
 | _,_=>false
def jb (x y:AV):Bool :=
 match x,y with
 | .agg a,.agg b=>oW a b
 | x,y=>pW x y
theorem tt {kt:TypeId}{x y:AV} (hx:iv P kt x=true) (hy:iv P kt y=true):pW x y=true↔x=y:=by
 unfold iv at hx hy
 cases hu:P.underlying kt with
 | none=>simp [hu] at hx
 | some d =>
  simp only [hu] at hx hy
  cases d<;>cases x<;>simp at hx<;>cases y<;>simp at hy<;>simp_all [pW]
theorem tr:∀ {fs:List Field}{i:Nat}{a b:List AV},dp P fs i a=true→dp P fs i b=true→(oW a b=true↔a=b)
 | [],_,[],[],_,_=>by simp [oW]
 | [],_,_::_,_,h,_=>by simp [dp] at h
 | [],_,[],_::_,_,h=>by simp [dp] at h
 | f::fs,i,[],_,h,_=>by simp [dp] at h
 | f::fs,i,_::_,[],_,h=>by simp [dp] at h
 | f::fs,i,x::a,y::b,h,h'=>by
  simp only [dp,aj] at h h'
  simp only [oW,aj,tt h.2.2.1 h'.2.2.1,tr h.2.2.2.2 h'.2.2.2.2,iI]
theorem gB {kt:TypeId}{x:AV} (h:iv P kt x=true):jb x=pW x∧∀ fs,P.underlying kt≠some (.struct fs):=by
 unfold iv at h
 refine⟨?_,fun fs e=>?_⟩
 ·funext y
  cases hu:P.underlying kt with
  | none=>simp [hu] at h
  | some d=>simp only [hu] at h;cases d<;>cases x<;>simp at h<;>rfl
 ·rw [e] at h
  cases x<;>simp at h
theorem dI {kt:TypeId}{x:AV} (h:dW P kt x=true):iv P kt x=true∨∃ fs cs,P.underlying kt=some (.struct fs)∧x=.agg cs∧P.stoodInHeld kt=false∧dp P fs.toList 0 cs=true:=by
 unfold dW at h
 rw [ef] at h
 rcases h with h | h
 ·exact .inl h
 ·split at h
  ·next fs cs hu =>
   simp only [aj,az] at h
   exact .inr ⟨fs,cs,hu,rfl,h.1,h.2⟩
  ·cases h
theorem gL {kt:TypeId}{x y:AV} (hx:dW P kt x=true) (hy:dW P kt y=true):jb x y=true↔x=y:=by
 rcases dI hx with h | ⟨fs,cs,hu,rfl,_,h⟩
 ·obtain⟨e,hn⟩:=gB h
  rcases dI hy with h' | ⟨fs,_,hu,_⟩
  ·rw [e];exact tt h h'
  ·exact absurd hu (hn fs)
 ·rcases dI hy with h' | ⟨fs',cs',hu',rfl,_,h'⟩
  ·exact absurd hu ((gB h').2 fs)
  ·rw [hu] at hu';cases hu'
   show oW cs cs'=true↔_
   rw [tr h h'];simp
theorem ij {kt:TypeId}{d:TypeDesc}{x:AV}{c:Value} (hd:P.underlying kt=some d) (hx:iv P kt x=true) (h:VR ι ψ x c):IsKey d c:=by
 unfold iv at hx
 rw [hd] at hx
 cases d<;>cases x<;>simp at hx<;>cases h<;>simp_all [IsKey]
theorem qm {kt:TypeId}{x y:AV}{c e:Value} (hx:iv P kt x=true) (hy:iv P kt y=true) (h:VR ι ψ x c) (h':VR ι ψ y e):c=e↔x=y:=by
 unfold iv at hx hy
 cases hu:P.underlying kt with
 | none=>simp [hu] at hx
 | some d =>
  simp only [hu] at hx hy
  cases d<;>cases x<;>simp at hx<;>cases y<;>simp at hy
  ·rw [h.bool_inv,h'.bool_inv];simp
  ·rw [h.int_inv,h'.int_inv];simp
  ·rw [h.str_inv,h'.str_inv];simp
theorem ql:∀ {fs:List Field}{i:Nat}{a b:List AV}{u v:List Value},dp P fs i a=true→dp P fs i b=true→a.length=u.length→b.length=v.length →
  (∀ (j:Nat) (x:AV) (c:Value),a[j]? = some x→u[j]? = some c→VR ι ψ x c)→(∀ (j:Nat) (x:AV) (c:Value),b[j]? = some x→v[j]? = some c→VR ι ψ x c)→(u=v↔a=b)
 | [],_,[],[],u,v,_,_,h1,h2,_,_=>by
  have e1:u=[]:=bo h1.symm
  have e2:v=[]:=bo h2.symm
  simp [e1,e2]
 | [],_,_::_,_,_,_,h,_,_,_,_,_=>by simp [dp] at h
 | [],_,[],_::_,_,_,_,h,_,_,_,_=>by simp [dp] at h
 | f::fs,i,[],_,_,_,h,_,_,_,_,_=>by simp [dp] at h
 | f::fs,i,_::_,[],_,_,_,h,_,_,_,_=>by simp [dp] at h
 | f::fs,i,x::a,y::b,[],_,_,_,h,_,_,_=>by simp at h
 | f::fs,i,x::a,y::b,_::_,[],_,_,_,h,_,_=>by simp at h
 | f::fs,i,x::a,y::b,c::u,e::v,h,h',h1,h2,h3,h4=>by
  simp only [dp,aj] at h h'
  have q:=qm h.2.2.1 h'.2.2.1 (h3 0 x c rfl rfl) (h4 0 y e rfl rfl)
  have r:=ql h.2.2.2.2 h'.2.2.2.2 (by simpa using h1) (by simpa using h2) (fun j z w hz hw=>h3 (j+1) z w (by simpa using hz) (by simpa using hw)) (fun j z w hz hw=>h4 (j+1) z w (by simpa using hz) (by simpa using hw))
  simp only [iI,q,r]
theorem mq {kt:TypeId}{x y:AV}{c e:Value} (hx:dW P kt x=true) (hy:dW P kt y=true) (h:VR ι ψ x c) (h':VR ι ψ y e):c=e↔x=y:=by
 rcases dI hx with k | ⟨fs,cs,hu,rfl,_,k⟩
 ·rcases dI hy with k' | ⟨fs,_,hu,_⟩
  ·exact qm k k' h h'
  ·exact absurd hu ((gB k).2 fs)
 ·rcases dI hy with k' | ⟨fs',cs',hu',rfl,_,k'⟩
  ·exact absurd hu ((gB k').2 fs)
  ·rw [hu] at hu';cases hu'
   cases h with
   | agg _ vs hl hv =>
    cases h' with
    | agg _ vs' hl' hv' =>
     have:=ql k k' (u:=vs.toList) (v:=vs'.toList) (by simpa using hl) (by simpa using hl') (fun j z w hz hw=>hv j z w hz (by simpa using hw)) (fun j z w hz hw=>hv' j z w hz (by simpa using hw))
     simp only [Value.agg.injEq,AV.agg.injEq,← this]
     exact⟨fun e=>by rw [e],fun e=>Cp.1 e⟩
def wk (P:Program) (kt:TypeId) (k:AV) (es:List (AV × AV)):Option (Option AV) :=
 if (dW P kt k&&es.all fun e=>dW P kt e.1)=true then some ((es.find? fun e=>jb k e.1).map lz) else none
theorem tL:∀ {fs:List Field}{i:Nat}{a b pa pb:List AV},dp P fs i a=true→dp P fs i b=true→pa.length=i→pb.length=i→ny (xY P 1) P (pa++a) (pb++b) fs=some (oW a b)
 | [],_,[],[],_,_,_,_,_,_=>rfl
 | [],_,_::_,_,_,_,h,_,_,_=>by simp [dp] at h
 | [],_,[],_::_,_,_,_,h,_,_=>by simp [dp] at h
 | f::fs,i,[],_,_,_,h,_,_,_=>by simp [dp] at h
 | f::fs,i,_::_,[],_,_,_,h,_,_=>by simp [dp] at h
 | f::fs,i,x::a,y::b,pa,pb,h,h',h1,h2=>by
  simp only [dp,aj,bne_iff_ne,ne_eq,decide_eq_true_eq] at h h'
  obtain⟨q1,q2,q3,q4,q5⟩:=h
  obtain⟨_,_,r3,_,r5⟩:=h'
  have hrc:=tL (pa:=pa++[x]) (pb:=pb++[y]) q5 r5 (by simp [h1]) (by simp [h2])
  simp only [aK,cz,cU] at hrc
  have hag:j_ P f.type=some false:=by
   unfold j_
   unfold iv at q3
   cases hu:P.underlying f.type with
   | none=>simp [hu] at q3
   | some d=>simp only [hu] at q3;cases d<;>cases x<;>simp at q3<;>rfl
  have hd1:(pa++x::a).drop f.offset=x::a:=by rw [q2,← h1];simp
  have hd2:(pb++y::b).drop f.offset=y::b:=by rw [q2,← h2];simp
  have he:xY P 1 f.type x y=some (pW x y):=by
   unfold iv at q3 r3
   simp only [xY]
   cases hu:P.underlying f.type with
   | none=>simp [hu] at q3
   | some d =>
    simp only [hu] at q3 r3
    cases d<;>cases x<;>simp at q3<;>cases y<;>simp at r3<;>simp_all [pW]
  simp only [ny,q1,if_false,hag,q4,hd1,hd2,jX,bJ,List.head?_cons,he,hrc]
  rfl
theorem xl {kt:TypeId}{fs:Array Field}{a b:List AV}{c e:Value} (hu:P.underlying kt=some (.struct fs)) (hst:P.stoodInHeld kt=false) (ha:dp P fs.toList 0 a=true) (hb:dp P fs.toList 0 b=true) (h:VR ι ψ (.agg a) c) (h':VR ι ψ (.agg b) e) (w:World):(kh kt c e).run P w=.ok (oW a b) w:=by
 have:=tL (pa:=[]) (pb:=[]) ha hb rfl rfl
 have he:xY P 2 kt (.agg a) (.agg b)=some (oW a b):=by
  simp only [xY,hu,hst,bJ,if_false]
  exact this
 exact m7 2 kt _ _ c e _ h h' he 9998 w
theorem tH {kt:TypeId}{k:AV}{c:Value} (hq:∀ (x:AV) (e:Value),dW P kt x=true→VR ι ψ x e→∀ w,(kh kt c e).run P w=.ok (jb k x) w):∀ (me:List MapEntry) (l:List (AV × AV)) (i:Nat),nP ι ψ l me→(∀ e∈l,dW P kt e.1=true) →
  ((∀ e∈l,jb k e.1=false)∧∀ w,(eF kt c me i).run P w=.ok none w)∨∃ j e m,l[j]? = some e∧me[j]? = some m∧jb k e.1=true∧∀ w,(eF kt c me i).run P w=.ok (some (i+j,m.val)) w
 | [],l,i,he,hl=>by
  have:l=[]:=bo he.1
  subst this
  exact .inl ⟨by simp,fun w=>rfl⟩
 | m::me,[],i,he,_=>by have:=he.1;simp at this
 | m::me,e::l,i,he,hl=>by
  have h1:=(he.2 0 e m rfl rfl).1
  have hke:=hl e (cV ..)
  have hrun:=fun w=>hq e.1 m.key hke h1 w
  cases hb:jb k e.1 with
  | true =>
   refine .inr ⟨0,e,m,rfl,rfl,hb,fun w=>?_⟩
   simp [eF,hrun w,hb]
  | false =>
   have het:nP ι ψ l me:=⟨by have:=he.1;simpa using this,fun j x y hx hy=>he.2 (j+1) x y (by simpa using hx) (by simpa using hy)⟩
   rcases tH hq me l (i+1) het (fun x hx=>hl x (fa _ hx)) with⟨h2,h3⟩ | ⟨j,x,y,h2,h3,h4,h5⟩
   ·refine .inl ⟨fun x hx=>?_,fun w=>?_⟩
    ·rcases bA.1 hx with rfl | hx
     ·exact hb
     ·exact h2 x hx
    ·simp [eF,hrun w,hb,h3 w]
   ·refine .inr ⟨j+1,x,y,by simpa using h2,by simpa using h3,h4,fun w=>?_⟩
    simp [eF,hrun w,hb,h5 w]
    omega
theorem zu {kt:TypeId}{k:AV}{c:Value}{l:List (AV × AV)}{me:List MapEntry} (hk:VR ι ψ k c) (he:nP ι ψ l me) (hkk:dW P kt k=true) (hall:∀ e∈l,dW P kt e.1=true) :
  ((∀ x∈me,x.key≠c)∧∀ w,(fb kt c me).run P w=.ok none w)∨∃ j m,me[j]? = some m∧m.key=c∧∀ w,(fb kt c me).run P w=.ok (some (j,m.val)) w:=by
 rcases dI hkk with hB | ⟨fs,a,hu,rfl,hst,hfs⟩
 ·obtain⟨d,hd⟩:∃ d,P.underlying kt=some d:=by
   cases hq:P.underlying kt with
   | none=>unfold iv at hB;simp [hq] at hB
   | some d=>exact⟨d,rfl⟩
  have hkeys:∀ x∈me,IsKey d x.key:=by
   intro x hx
   obtain⟨j,hj⟩:=aQ hx
   have hlt:j<l.length:=by rw [he.1];exact(ab.1 hj).1
   rcases dI (hall _ (g7 hlt)) with h | ⟨fs,_,hu,_⟩
   ·exact ij hd h (he.2 j l[j] x (al hlt) hj).1
   ·exact absurd hu ((gB hB).2 fs)
  rcases findNow_spec (ij hd hB hk) me 0 hkeys with⟨h1,h2⟩ | ⟨j,m,h1,h2,h3⟩
  ·exact .inl ⟨h2,fun w=>run_findKey hd h1⟩
  ·exact .inr ⟨j,m,h2,h3,fun w=>run_findKey hd (by simpa using h1)⟩
 ·have hq:∀ (x:AV) (e:Value),dW P kt x=true→VR ι ψ x e→∀ w,(kh kt c e).run P w=.ok (jb (.agg a) x) w:=by
   intro x e hx hxe w
   rcases dI hx with h' | ⟨fs',b,hu',rfl,_,hfs'⟩
   ·exact absurd hu ((gB h').2 fs)
   ·rw [hu] at hu';cases hu'
    exact xl hu hst hfs hfs' hk hxe w
  have hkeyrun:∀ w,(fb kt c me).run P w=(eF kt c me 0).run P w:=by
   intro w
   cases me with
   | nil=>simp [fb,run_underlying hu,CK,eF]
   | cons m me=>simp [fb,run_underlying hu,CK,Instr.sameNow]
  rcases tH hq me l 0 he hall with⟨h1,h2⟩ | ⟨j,e,m,h1,h2,h3,h4⟩
  ·refine .inl ⟨fun x hx hxc=>?_,fun w=>(hkeyrun w).trans (h2 w)⟩
   obtain⟨j,hj⟩:=aQ hx
   have hlt:j<l.length:=by rw [he.1];exact(ab.1 hj).1
   have hm:=g7 hlt
   have hv:=(he.2 j l[j] x (al hlt) hj).1
   have h5:=(mq (hall _ hm) hkk hv hk).1 hxc
   have h6:=h1 _ hm
   rw [(gL hkk (hall _ hm)).2 h5.symm] at h6
   cases h6
  ·have hm:=ar h1
   have hv:=(he.2 j e m h1 h2).1
   refine .inr ⟨j,m,h2,(mq (hall _ hm) hkk hv hk).2 ((gL hkk (hall _ hm)).1 h3).symm,fun w=>(hkeyrun w).trans (by simpa using h4 w)⟩
theorem qr {kt:TypeId}{k:AV}{c:Value}{es l:List (AV × AV)}{me:List MapEntry} (hk:VR ι ψ k c) (hp:l.Perm es) (hn:(es.map bZ).Nodup)
  (he:nP ι ψ l me) (hkk:dW P kt k=true) (hall:∀ e∈es,dW P kt e.1=true) :
  (es.find? (fun e=>jb k e.1)=none∧∀ w,(fb kt c me).run P w=.ok none w) ∨
  ∃ j e m,es.find? (fun e=>jb k e.1)=some e∧l[j]? = some e∧me[j]? = some m∧m.key=c∧e.1=k∧∀ w,(fb kt c me).run P w=.ok (some (j,m.val)) w:=by
 rcases zu hk he hkk (fun e hem=>hall e (hp.mem_iff.1 hem)) with⟨h2,h1⟩ | ⟨j,m,h2,h3,h1⟩
 ·refine .inl ⟨?_,h1⟩
  rw [i7]
  intro e hem hq
  have e1:=(gL hkk (hall e hem)).1 hq
  obtain⟨j,hj⟩:=aQ (hp.mem_iff.2 hem)
  have hlt:j<me.length:=by rw [← he.1];exact(ab.1 hj).1
  have hv:=(he.2 j e me[j] hj (al hlt)).1
  exact h2 me[j] (g7 hlt) ((mq (hall e hem) hkk hv hk).2 e1.symm)
 ·have hlt:j<l.length:=by rw [he.1];exact(ab.1 h2).1
  have hl:l[j]? = some l[j]:=al hlt
  have hmem:l[j]∈es:=hp.mem_iff.1 (g7 hlt)
  have hv:=he.2 j l[j] m hl h2
  have hke:l[j].1=k:=(mq (hall _ hmem) hkk hv.1 hk).1 h3
  refine .inr ⟨j,l[j],m, ?_,hl,h2,h3,hke,h1⟩
  cases hf:es.find? (fun e=>jb k e.1) with
  | none =>
   rw [i7] at hf
   exact absurd ((gL hkk (hall _ hmem)).2 hke.symm) (hf _ hmem)
  | some e' =>
   have h4:=List.find?_some hf
   have h5:=gw hf
   have h6:=(gL hkk (hall e' h5)).1 h4
   congr 1
   obtain⟨a,ha⟩:=aQ h5
   obtain⟨b,hb⟩:=aQ hmem
   have hab:a=b:=by
    have hal:a<(es.map bZ).length:=by simpa using (ab.1 ha).1
    refine(pG hal hn).1 ?_
    simp only [aF,ha,hb,cu]
    rw [← h6,hke]
   subst hab
   rw [ha] at hb;cases hb;rfl
theorem oV {kt:TypeId}{x:AV} (h:iv P kt x=true):j_ P kt=some false∧∃ d,P.underlying kt=some d:=by
 unfold j_
 unfold iv at h
 cases hu:P.underlying kt with
 | none=>simp [hu] at h
 | some d =>
  simp only [hu] at h
  refine⟨?_,d,rfl⟩
  cases d<;>cases x<;>simp at h<;>rfl
theorem tY (e:Bool) (w:World){A:List AV}{vs:Array Value} (hl:A.length=vs.size) (hv:∀ (j:Nat) (x:AV),A[j]? = some x→∃ v,vs[j]? = some v∧VR ι ψ x v):∀ (fs:List Field) (i:Nat),dp P fs i (A.drop i)=true →
  (forIn (m:=Sem) fs PUnit.unit fun f (_:PUnit)=>if f.name ≠ "_" then do
    let x ← part f.type vs f.offset
    gn e 9999 f.type x
    pure (ForInStep.yield PUnit.unit)
   else pure (ForInStep.yield PUnit.unit)).run P w=.ok PUnit.unit w
 | [],_,_=>rfl
 | f::fs,i,h=>by
  cases hd:A.drop i with
  | nil=>rw [hd] at h;simp [dp] at h
  | cons x xs =>
   rw [hd] at h
   simp only [dp,aj,bne_iff_ne,ne_eq,decide_eq_true_eq] at h
   obtain⟨q1,q2,q3,q4,q5⟩:=h
   have hxs:A.drop (i+1)=xs:=by rw [← List.drop_drop,hd];rfl
   have ih:=tY e w hl hv fs (i+1) (by rw [hxs];exact q5)
   obtain⟨hag,d,hud⟩:=oV q3
   obtain⟨cv,hr,hvr⟩:=io (P:=P) (w:=w) hag q4 hl hv f.offset (y:=x) (by rw [q2,hd];rfl)
   have hck:(gn e 9999 f.type cv).run P w=.ok () w:=run_checkKey hud (ij hud q3 hvr) e 9998
   rw [List.forIn_cons]
   simp only [ne_eq,q1,not_false_eq_true,if_true]
   simp [hr,hck,Cf]
   simpa using ih
theorem qn {kt:TypeId}{x:AV}{c:Value} (hx:dW P kt x=true) (h:VR ι ψ x c) (e:Bool) (w:World):(gn e 10000 kt c).run P w=.ok () w:=by
 rcases dI hx with hB | ⟨fs,a,hu,rfl,hst,hfs⟩
 ·obtain⟨d,hd⟩:∃ d,P.underlying kt=some d:=by
   cases hq:P.underlying kt with
   | none=>unfold iv at hB;simp [hq] at hB
   | some d=>exact⟨d,rfl⟩
  exact run_checkKey hd (ij hd hB h) e 9999
 ·cases h with
  | agg _ vs hl hv =>
   unfold gn
   simp only [bu,run_underlying hu,Cf]
   have:=tY (P:=P) e w hl (fun j x hx=>by
    have hj:j<vs.size:=by rw [← hl];exact(ab.1 hx).1
    exact⟨vs[j],by simp [hj],hv j x _ hx (by simp [hj])⟩) fs.toList 0 hfs
   rw [Array.forIn_toList] at this
   rw [this];rfl
theorem qo:∀ {fs:List Field}{i:Nat}{a:List AV},dp P fs i a=true→∀ x∈a,∃ T,iv P T x=true
 | [],_,[],_,x,hx=>by cases hx
 | [],_,_::_,h,_,_=>by simp [dp] at h
 | _::_,_,[],_,x,hx=>by cases hx
 | f::fs,i,y::a,h,x,hx=>by
  simp only [dp,aj] at h
  rcases bA.1 hx with rfl | hx
  ·exact⟨_,h.2.2.1⟩
  ·exact qo h.2.2.2.2 x hx
theorem xk {kt:TypeId}{x:AV}{c:Value} (hx:dW P kt x=true) (h:VR ι ψ x c) (w:World):(mN c c).run P w=.ok c w:=by
 rcases dI hx with hB | ⟨fs,a,hu,rfl,hst,hfs⟩
 ·obtain⟨_,d,hd⟩:=oV hB
  exact run_keyThatStays (ij hd hB h)
 ·cases h with
  | agg _ vs hl hv =>
   have hs:ln 10000 (.agg vs) (.agg vs)=true:=by
    show ln (9999+1) (.agg vs) (.agg vs)=true
    simp only [ln,beq_self_eq_true,lX,aq]
    intro p hp
    obtain⟨j,hj⟩:=aQ hp
    rw [List.getElem?_zip_eq_some] at hj
    obtain⟨h1,h2⟩:=hj
    have e:p.1=p.2:=by rw [h1] at h2;exact bi h2
    have hlt:j<a.length:=by rw [hl];have:=(ab.1 h1).1;simpa using this
    obtain⟨T,hT⟩:=qo hfs a[j] (g7 hlt)
    obtain⟨_,d,hd⟩:=oV hT
    have hvr:=hv j a[j] p.1 (al hlt) (by simpa using h1)
    show ln 9999 p.1 p.2=true
    rw [← e]
    exact sameBits_self (ij hd hT hvr) 9999
   simp [mN,hs]
def kj (P:Program) (t:TypeId):Option AV:=((P.info? t).bind (·.zero)).map Ai
theorem iO {t:TypeId}{z:AV} (h:kj P t=some z):∃ v,(zeroValue t).run P w=.ok v w∧VR ι ψ z v:=by
 unfold kj at h
 cases hi:P.info? t with
 | none=>simp [hi] at h
 | some i =>
  cases hz:i.zero with
  | none=>simp [hi,hz] at h
  | some v =>
   simp [hi,hz] at h;subst h
   exact⟨v,by simp [zeroValue,typeInfo,hi,hz],sf v⟩
def kI (S:List ax):AV→Option (List (AV × AV))
 | .mnil=>some []
 | .mval es=>some es
 | .mown a=>match S[a]? with
  | some (.mp _ es)=>some es
  | _=>none
 | _=>none
theorem vj (h:b7 w0 ι ψ S w){x:AV}{c:Value}{es:List (AV × AV)} (hx:VR ι ψ x c) (he:kI S x=some es) :
  ∃ (me:Array MapEntry) (l:List (AV × AV)),(es.map bZ).Nodup∧l.Perm es∧nP ι ψ l me.toList∧((c=.map none∧me=#[])∨∃ r ck,c=.map (some r)∧w.heap[r]? = some (.map me ck)∧wr me ck):=by
 cases hx with
 | mnil=>simp [kI] at he;subst he;exact⟨#[],[],by simp,.refl _,⟨rfl,by simp⟩,.inl ⟨rfl,rfl⟩⟩
 | mval es' l b ck me hb hp hl hn h1 h2 =>
  simp [kI] at he;subst he
  obtain⟨hck,hok⟩:=h.psim b me ck hb
  exact⟨me,l,hn,hp,⟨by simpa using hl,fun i e m hi hm=>⟨h1 i e m hi (by simpa using hm),h2 i e m hi (by simpa using hm)⟩⟩,.inr ⟨b,ck,rfl,hck,hok⟩⟩
 | mown a pl hpl =>
  simp only [kI] at he
  split at he
  ·next fz es' hS =>
   simp at he;subst he
   obtain⟨h0,hn,⟨me,ck,l,h1,h2,h3,h4,h5⟩,h6⟩:=h.blk a _ pl hS hpl
   exact⟨me,l,hn,h3,h4,.inr ⟨pl.blk,ck,rfl,h1,h2⟩⟩
  ·cases he
 | _=>simp [kI] at he
def gK (P:Program) (S:List ax) (t:TypeId) (x k:AV) (ok:Bool):Option AV :=
 match P.underlying t,kI S x with
 | some (.map kt et),some es=>match wk P kt k es,kj P et with
  | some r,some z=>some (if ok then .tup [r.getD z,.bool r.isSome] else r.getD z)
  | _,_=>none
 | _,_=>none
theorem pV (h:b7 w0 ι ψ S w){t:TypeId}{x k y:AV}{c d:Value}{ok:Bool} (hx:VR ι ψ x c) (hk:VR ι ψ k d) (he:gK P S t x k ok=some y) :
  ∃ cv,(ni t c d ok).run P w=.ok cv w∧VR ι ψ y cv:=by
 unfold gK at he
 split at he
 ·next kt et es hu hes =>
  split at he
  ·next r z hr hz =>
   simp only [a8] at he
   subst he
   unfold wk at hr
   split at hr
   ·next hc =>
    simp only [aj,aq] at hc
    simp only [a8] at hr
    subst hr
    obtain⟨me,l,hn,hp,hent,hcase⟩:=vj h hx hes
    obtain⟨zv,hzr,hzv⟩:=iO (P:=P) (w:=w) (ι:=ι) (ψ:=ψ) hz
    have hck:∀ e,(gn e 10000 kt d).run P w=.ok () w:=fun e=>qn hc.1 hk e w
    have tup2:∀ {a:AV}{v:Value}{b:Bool},VR ι ψ a v→VR ι ψ (if ok then .tup [a,.bool b] else a) (if ok then .tuple #[v,.bool b] else v):=fun {a v b} h=>by
     cases ok
     ·exact h
     ·exact .tup _ _ rfl fun j x v hx hv=>by
       match j with
       | 0=>simp at hx hv;subst hx;subst hv;exact h
       | 1=>simp at hx hv;subst hx;subst hv;exact .bool _
       | j+2=>simp at hx
    rcases qr (P:=P) hk hp hn hent hc.1 hc.2 with⟨e1,e2⟩ | ⟨j,e,m,e1,e2,e3,e4,e5,e6⟩
    ·rw [e1]
     refine⟨_, ?_,tup2 (b:=false) hzv⟩
     rcases hcase with⟨rfl,rfl⟩ | ⟨r,ck,rfl,hm,_⟩
     ·have hf:(fb kt d []).run P w=.ok none w:=e2 w
      simp [ni,run_underlying hu,hck,hf,hzr]
     ·have hf:=e2 w
      simp [ni,run_underlying hu,dC hm,hck,hf,hzr]
    ·rw [e1]
     refine⟨_, ?_,tup2 (b:=true) (hent.2 j e m e2 e3).2⟩
     rcases hcase with⟨rfl,rfl⟩ | ⟨r,ck,rfl,hm,_⟩
     ·simp at e3
     ·have hf:=e6 w
      simp [ni,run_underlying hu,dC hm,hck,hf]
   ·cases hr
  ·cases he
 ·cases he
def mr:TypeDesc→Bool
 | .interface _=>true
 | _=>false
def n_ (P:Program) (x:AV) (t:TypeId) (ok:Bool):Option AV :=
 match P.underlying t with
 | some d=>if mr d then none else
  match x,ok with
  | .ifc u v,ok=>if u=t then some (if ok then .tup [v,.bool true] else v) else (if ok then (kj P t).map (fun z=>.tup [z,.bool false]) else none)
  | .inil,true=>(kj P t).map (fun z=>.tup [z,.bool false])
  | _,_=>none
 | none=>none
theorem pY {x y:AV}{c:Value}{t xt:TypeId}{ok:Bool} (hx:VR ι ψ x c) (he:n_ P x t ok=some y):∃ cv,(jT c xt t ok).run P w=.ok cv w∧VR ι ψ y cv:=by
 have tup2:∀ {a:AV}{v:Value}{b:Bool},VR ι ψ a v→VR ι ψ (.tup [a,.bool b]) (.tuple #[v,.bool b]):=fun {a v b} h=>.tup _ _ rfl fun j x v hx hv=>by
  match j with
  | 0=>simp at hx hv;subst hx;subst hv;exact h
  | 1=>simp at hx hv;subst hx;subst hv;exact .bool _
  | j+2=>simp at hx
 unfold n_ at he
 split at he
 ·next d hu =>
  split at he
  ·cases he
  ·next hi =>
   split at he
   ·next u v =>
    cases hx with
    | ifc _ _ c hc =>
     by_cases hut:u=t
     ·subst hut
      simp at he;subst he
      refine⟨if ok then .tuple #[c,.bool true] else c, ?_, ?_⟩
      ·cases d<;>simp [mr] at hi<;>simp [jT,run_underlying hu]
      ·cases ok
       ·exact hc
       ·exact tup2 hc
     ·rw [if_neg hut] at he
      cases ok
      ·simp at he
      ·simp only [if_true,aJ] at he
       obtain⟨z,hz,rfl⟩:=he
       obtain⟨zv,hzr,hzv⟩:=iO (P:=P) (w:=w) (ι:=ι) (ψ:=ψ) hz
       refine⟨_, ?_,tup2 hzv⟩
       cases d<;>simp [mr] at hi<;>simp [jT,run_underlying hu,hut,hzr]
   ·simp only [aJ] at he
    obtain⟨z,hz,rfl⟩:=he
    obtain⟨zv,hzr,hzv⟩:=iO (P:=P) (w:=w) (ι:=ι) (ψ:=ψ) hz
    cases hx
    refine⟨_, ?_,tup2 hzv⟩
    cases d<;>simp [mr] at hi<;>simp [jT,run_underlying hu,hzr]
   ·cases he
 ·cases he
def o9 (S:List ax) (x:AV):Option AV :=
 match x with
 | .own a 0=>match S[a]? with
  | some (.mit (some e) _)=>some (.tup [e.1,e.2])
  | _=>none
 | _=>none
theorem rU (h:b7 w0 ι ψ S w){x y:AV}{c:Value} (hx:VR ι ψ x c) (he:o9 S x=some y):∃ cv,(Instr.entry c).run P w=.ok cv w∧VR ι ψ y cv:=by
 unfold o9 at he
 split at he
 ·next a =>
  split at he
  ·next e rest hS =>
   simp at he;subst he
   cases hx with
   | own _ _ pl hpl =>
    obtain⟨h0,h1,_⟩:=h.blk a _ pl hS hpl
    rcases h1 with⟨_,_,h1⟩ | ⟨mb,ck,me,seen,l,k1,k2,k4,k5,k6⟩
    ·cases h1
    ·obtain⟨b,m,q1,q2,q3,q4⟩:=k6 e rfl
     obtain⟨hc,_⟩:=h.psim mb me ck k2
     refine⟨.tuple #[m.key,m.val],by simp [Instr.entry,getObj,kg,k1,q1,hc,q2],.tup _ _ rfl fun j x v hx hv=>?_⟩
     match j with
     | 0=>simp at hx hv;subst hx;subst hv;exact q3
     | 1=>simp at hx hv;subst hx;subst hv;exact q4
     | j+2=>simp at hx
  ·cases he
 ·cases he
def tq (S:List ax) (P:Program) (t:TypeId) (x:AV):Option AV :=
 match P.underlying t,x with
 | some (.map _ _),.mown a=>match S[a]? with
  | some (.mp _ es)=>some (.int .i64 es.length)
  | _=>none
 | _,_=>none
theorem u6 (h:b7 w0 ι ψ S w){t ty:TypeId}{x r:AV}{c:Value} (hx:VR ι ψ x c) (he:tq S P t x=some r):∃ cv,(Builtin.len_ #[t] ty #[c]).run P w=.ok cv w∧VR ι ψ r cv:=by
 unfold tq at he
 split at he
 ·next kt et a hu =>
  split at he
  ·next fz es hS =>
   simp at he;subst he
   cases hx with
   | mown _ pl hpl =>
    obtain⟨h0,hn,⟨me,ck,l,h1,h2,h3,h4,h5⟩,h6⟩:=h.blk a _ pl hS hpl
    refine⟨.int .i64 me.size,by simp [Builtin.len_,run_underlying hu,goInt,getObj,kg,h1], ?_⟩
    have:es.length=me.size:=by rw [← h3.length_eq,h4.1];simp
    rw [this];exact .int _ _
  ·cases he
 ·cases he
end Go.Fen
namespace Go.Fen
open Go.RowKit
variable {P:Program}{w0 w w':World}{ι:List Pl}{ψ:cX}{S:List ax}
def AV.isJunk:AV→Bool
 | .junk=>true
 | _=>false
def kH (place:Nat→Option (Nat × Nat)) (cells:List AV):List (Nat × AV)→Option (List AV)
 | []=>some cells
 | (i,v)::rest =>
  match place i with
  | some (off,size)=>if v.cells.length=size∧off+size≤cells.length∧v.isJunk=false then kH place (eV cells off v.cells) rest else none
  | none=>none
def CR (ι:List Pl) (ψ:cX) (cs:List AV) (vs:Array Value):Prop:=cs.length=vs.size∧∀ (j:Nat) (x:AV),cs[j]? = some x→∃ v,vs[j]? = some v∧VR ι ψ x v
theorem wY (off:Nat):∀ (l:List Value) (k:Nat) (cells:Array Value),off+k+l.length≤cells.size →
  ∀ j,(((l.zipIdx k).foldl (fun cs (p:Value × Nat)=>cs.setIfInBounds (off+p.2) p.1) cells)[j]? = if off+k≤j∧j<off+k+l.length then l[j - (off+k)]? else cells[j]?) ∧
   ((l.zipIdx k).foldl (fun cs (p:Value × Nat)=>cs.setIfInBounds (off+p.2) p.1) cells).size=cells.size:=by
 intro l
 induction l with
 | nil=>intro k cells h j;simp;omega
 | cons v l ih =>
  intro k cells h j
  simp only [aI] at h
  obtain⟨h1,h2⟩:=ih (k+1) (cells.setIfInBounds (off+k) v) (by simp;omega) j
  simp only [List.zipIdx_cons,ee]
  refine⟨?_,by rw [h2];simp⟩
  rw [h1]
  by_cases hj:off+k=j
  ·subst hj
   rw [if_neg (by omega),if_pos (by simp)]
   simp [show off+k<cells.size by omega]
  ·by_cases hin:off+(k+1)≤j∧j<off+(k+1)+l.length
   ·rw [if_pos hin,if_pos (by simp;omega)]
    rw [show j - (off+k)=(j - (off+(k+1)))+1 by omega];simp
   ·rw [if_neg hin,if_neg (by simp;omega),ol hj]
theorem lO {place:Nat→Option (Nat × Nat)}:∀ (ps:List (Nat × AV)) (vs:List (Nat × Value)) (cells:List AV) (vc:Array Value) (r:List AV),CR ι ψ cells vc →
  ps.length=vs.length→(∀ (j:Nat) (p:Nat × AV) (q:Nat × Value),ps[j]? = some p→vs[j]? = some q→p.1=q.1∧VR ι ψ p.2 q.2)→kH place cells ps=some r →
  ∃ rc,Instr.fill place vc vs=some rc∧CR ι ψ r rc:=by
 intro ps
 induction ps with
 | nil =>
  intro vs cells vc r hc hl _ h
  cases vs with
  | nil=>simp [kH] at h;subst h;exact⟨vc,rfl,hc⟩
  | cons=>simp at hl
 | cons p ps ih =>
  intro vs cells vc r hc hl hv h
  cases vs with
  | nil=>simp at hl
  | cons q vs =>
   obtain⟨h1,h2⟩:=hv 0 p q rfl rfl
   obtain⟨i,x⟩:=p
   obtain⟨i',c⟩:=q
   simp only at h1 h2
   subst h1
   simp only [kH] at h
   split at h
   ·next off size hp =>
    split at h
    ·next hs =>
     obtain⟨hs1,hs2,hs3⟩:=hs
     obtain⟨hcs,hcv⟩:=h2.cells (by intro e;subst e;simp [AV.isJunk] at hs3)
     have hput:=wY off c.cells.toList 0 vc (by have:=hc.1;simp;omega)
     have hfold:c.cells.zipIdx.foldl (fun cs (x:Value × Nat)=>cs.setIfInBounds (off+x.2) x.1) vc=(c.cells.toList.zipIdx 0).foldl (fun cs (p:Value × Nat)=>cs.setIfInBounds (off+p.2) p.1) vc:=by
      rw [← Array.foldl_toList];simp
     have hcr:CR ι ψ (eV cells off x.cells) (c.cells.zipIdx.foldl (fun cs (x:Value × Nat)=>cs.setIfInBounds (off+x.2) x.1) vc):=by
      rw [hfold]
      refine⟨?_,fun j y hy=>?_⟩
      ·rw [(hput 0).2];have:=hc.1;simp [eV];omega
      ·rw [(hput j).1]
       rw [eV,d8 cells x.cells off j (by omega)] at hy
       by_cases hj:off≤j∧j<off+x.cells.length
       ·rw [if_pos hj] at hy
        rw [if_pos (by simp;omega)]
        obtain⟨v,hv1,hv2⟩:=hcv _ y hy
        exact⟨v,by simpa using hv1,hv2⟩
       ·rw [if_neg hj] at hy
        rw [if_neg (by simp;omega)]
        exact hc.2 j y hy
     obtain⟨rc,hr1,hr2⟩:=ih vs _ _ r hcr (by simpa using hl) (fun j p q hp hq=>hv (j+1) p q (by simpa using hp) (by simpa using hq)) h
     refine⟨rc, ?_,hr2⟩
     have hle:¬ (c.cells.size≠size∨off+c.cells.size>vc.size):=by have:=hc.1;omega
     simp only [Instr.fill,hp]
     rw [if_neg (by simpa using hle)]
     exact hr1
    ·cases h
   ·cases h
def zeroA (P:Program) (t:TypeId):Option (List AV):=((P.info? t).bind (·.zero)).map (fun z=>(Ai z).cells)
theorem iP {t:TypeId}{z:List AV} (h:zeroA P t=some z):∃ v,(zeroValue t).run P w=.ok v w∧CR ι ψ z v.cells:=by
 unfold zeroA at h
 cases hi:P.info? t with
 | none=>simp [hi] at h
 | some i =>
  cases hz:i.zero with
  | none=>simp [hi,hz] at h
  | some v =>
   simp [hi,hz] at h;subst h
   refine⟨v,by simp [zeroValue,typeInfo,hi,hz], ?_⟩
   have key:Ai v≠.junk→CR ι ψ (Ai v).cells v.cells:=fun hne=>⟨((sf (ι:=ι) (ψ:=ψ) v).cells hne).1.symm,((sf (ι:=ι) (ψ:=ψ) v).cells hne).2⟩
   by_cases hj:Ai v=.junk
   ·have:v.cells=#[v]:=by cases v<;>first | rfl | simp [Ai] at hj
    rw [hj,this]
    refine⟨rfl,fun j x e=>?_⟩
    cases j with
    | zero=>simp [AV.cells] at e;subst e;exact⟨v,by simp,.junk _⟩
    | succ n=>simp [AV.cells] at e
   ·exact key hj
def kZ (P:Program) (fs:List Field):Option (List (Nat × Nat)) :=
 match fs with
 | []=>some []
 | f::fs=>match dG P f.type,kZ P fs with
  | some n,some r=>some ((f.offset,n)::r)
  | _,_=>none
theorem mh:∀ (fs:List Field) (r:List (Nat × Nat)),kZ P fs=some r→∀ w,(fs.mapM (m:=Sem) fun f=>do pure (f.offset,← sizeOf f.type)).run P w=.ok r w
 | [],r,h,w=>by simp [kZ] at h;subst h;simp
 | f::fs,r,h,w=>by
  simp only [kZ] at h
  split at h
  ·next n r' hn hr =>
   simp at h;subst h
   have ih:=mh fs r' hr w
   simp only [bind_pure_comp] at ih
   simp [List.mapM_cons,bP hn,ih]
  ·cases h
def sb (P:Program) (t:TypeId) (parts:List (Nat × AV)):Option AV :=
 match P.underlying t,zeroA P t with
 | some (.struct fs),some z=>match kZ P fs.toList with
  | some pl=>(kH (fun i=>pl[i]?) z parts).map .agg
  | none=>none
 | some (.array _ e),some z=>match dG P e with
  | some n=>(kH (fun i=>some (i * n,n)) z parts).map .agg
  | none=>none
 | _,_=>none
theorem sa {t:TypeId}{ps:List (Nat × AV)}{vs:Array (Nat × Value)}{r:AV} (hl:ps.length=vs.size)
  (hv:∀ (j:Nat) (p:Nat × AV) (q:Nat × Value),ps[j]? = some p→vs[j]? = some q→p.1=q.1∧VR ι ψ p.2 q.2) (h:sb P t ps=some r) :
  ∃ cv,(vM t vs).run P w=.ok cv w∧VR ι ψ r cv:=by
 unfold sb at h
 split at h
 ·next fs z hu hz =>
  obtain⟨zv,hzr,hzc⟩:=iP (P:=P) (w:=w) (ι:=ι) (ψ:=ψ) hz
  split at h
  ·next pl hpl =>
   cases hf:kH (fun i=>pl[i]?) z ps with
   | none=>simp [hf] at h
   | some cells =>
    simp [hf] at h;subst h
    obtain⟨rc,h1,h2⟩:=lO ps vs.toList z zv.cells cells hzc (by simpa using hl) (fun j p q hp hq=>hv j p q hp (by simpa using hq)) hf
    have hm:=mh fs.toList pl hpl w
    refine⟨.agg rc, ?_,.agg _ _ h2.1 fun j x v hx hv'=>?_⟩
    ·have hmA:(fs.mapM (m:=Sem) fun f=>do pure (f.offset,← sizeOf f.type)).run P w=.ok pl.toArray w:=by
      rw [jw]
      simp only [Ce,hm,bB]
     simp only [vM,bu,hzr,bB,run_underlying hu,hmA]
     simp only [cS,h1,eD]
    ·obtain⟨v',e1,e2⟩:=h2.2 j x hx
     rw [e1] at hv';cases hv';exact e2
  ·cases h
 ·next n e z hu hz =>
  obtain⟨zv,hzr,hzc⟩:=iP (P:=P) (w:=w) (ι:=ι) (ψ:=ψ) hz
  split at h
  ·next sz hsz =>
   cases hf:kH (fun i=>some (i * sz,sz)) z ps with
   | none=>simp [hf] at h
   | some cells =>
    simp [hf] at h;subst h
    obtain⟨rc,h1,h2⟩:=lO ps vs.toList z zv.cells cells hzc (by simpa using hl) (fun j p q hp hq=>hv j p q hp (by simpa using hq)) hf
    refine⟨.agg rc, ?_,.agg _ _ h2.1 fun j x v hx hv'=>?_⟩
    ·simp only [vM,bu,hzr,bB,run_underlying hu,bP hsz,h1,eD]
    ·obtain⟨v',e1,e2⟩:=h2.2 j x hx
     rw [e1] at hv';cases hv';exact e2
  ·cases h
 ·cases h
def mD (P:Program) (S:List ax) (b:Builtin) (args:List AV) (ts:List TypeId):Option AV :=
 match b,args,ts with
 | .unsafeSliceData,[.sown a g n],_=>(match S[a]? with
  | some (.arr _ _ _ g' els)=>if g=g'∧n=els.length∧1≤n then some (.oel a g 0 0) else none
  | _=>none)
 | .unsafeSliceData,[.snil],_=>some .nilp
 | .len,[x],[t]=>(tq S P t x).orElse fun _=>BD P t x
 | .min,[.int k a,.int _ b],_=>some (.int k (if b<a then b else a))
 | .max,[.int k a,.int _ b],_=>some (.int k (if b>a then b else a))
 | _,_,_=>none
def ez (P:Program) (S:List ax) (ρ:Operand→AV) (op:Op):Option AV :=
 match op with
 | .move x | .assign x=>some (ρ x)
 | .pick c a b=>match ρ c with
  | .bool t=>some (if t then ρ a else ρ b)
  | _=>none
 | .load t a=>qh P S t (ρ a)
 | .nilCheck x=>match ρ x with
  | .own a o=>some (.own a o)
  | .oel a g i o=>some (.oel a g i o)
  | .pro cs=>some (.pro cs)
  | .fn (.func f) a c=>some (.fn (.func f) a c)
  | _=>none
 | .binOp op t x y _=>B3 P op t x y (ρ x) (ρ y)
 | .unOp op _ x=>FG op (ρ x)
 | .convert s d x=>pp P S s d (ρ x)
 | .makeInterface t x=>if P.concrete t=true then some (.ifc t (ρ x)) else none
 | .makeFunc fn first cap=>some (.fn fn (first.toList.map ρ) (cap.toList.map ρ))
 | .slice t x lo hi mx=>qY P t (ρ x) (lo.map ρ) (hi.map ρ) (mx.map ρ)
 | .fieldAddr s x f=>rR P s (ρ x) f
 | .field t x f=>rP P t (ρ x) f
 | .indexAddr t x i=>lL P S t (ρ x) (ρ i)
 | .index t x i=>rI P t (ρ x) (ρ i)
 | .lookup t x i ok=>gK P S t (ρ x) (ρ i) ok
 | .typeAssert x _ t ok=>n_ P (ρ x) t ok
 | .entry x=>o9 S (ρ x)
 | .extract x i=>match ρ x with
  | .tup vs=>vs[i]?
  | _=>none
 | .build t parts=>sb P t (parts.toList.map fun p=>(p.1,ρ p.2))
 | .call c=>match c.callee with
  | .builtin b=>mD P S b (c.args.toList.map ρ) c.argTypes.toList
  | _=>none
 | _=>none
theorem mJ {ρ:Operand→AV}{σ:Operand→Value} (h:∀ x,VR ι ψ (ρ x) (σ x)) (x:Option Operand):pD ι ψ (x.map ρ) (x.map σ):=by
 cases x with
 | none=>trivial
 | some x=>exact h x
theorem rE {α β:Type}{f:α→β}{l:List α}{x:β} (h:l.map f=[x]):∃ a,l=[a]∧f a=x:=by
 cases l with
 | nil=>simp at h
 | cons a l=>cases l with
  | nil=>simp at h;exact⟨a,rfl,h⟩
  | cons b l=>simp at h
theorem wc {α β:Type}{f:α→β}{l:List α}{x y:β} (h:l.map f=[x,y]):∃ a b,l=[a,b]∧f a=x∧f b=y:=by
 cases l with
 | nil=>simp at h
 | cons a l=>cases l with
  | nil=>simp at h
  | cons b l=>cases l with
   | nil=>simp at h;exact⟨a,b,rfl,h.1,h.2⟩
   | cons c l=>simp at h
theorem sX (h:b7 w0 ι ψ S w){ρ:Operand→AV}{σ:Operand→Value} (hρ:∀ x,VR ι ψ (ρ x) (σ x)){o:Oper}{r:AV} (he:ez P S ρ o.op=some r) :
  ∃ cv,(execOp σ o).run P w=.ok (.value cv) w∧VR ι ψ r cv:=by
 obtain⟨dst,op,ty,pos,after,guard⟩:=o
 simp only at he
 unfold ez at he
 split at he
 ·next x=>simp at he;subst he;exact⟨_,rfl,hρ x⟩
 ·next x=>simp at he;subst he;exact⟨_,rfl,hρ x⟩
 ·next c a b =>
  split at he
  ·next t ht =>
   have:=hρ c;rw [ht] at this
   have hc:=this.bool_inv
   simp at he;subst he
   refine⟨if t then σ a else σ b,by simp [execOp,hc,asBool], ?_⟩
   cases t<;>simp [hρ]
  ·cases he
 ·next t a =>
  obtain⟨cv,hr,hv⟩:=nr h (hρ a) he
  exact⟨cv,by simp [execOp,hr],hv⟩
 ·next x =>
  have hx:=hρ x
  split at he<;>(try (cases he;done))<;>next heq =>
   rw [heq] at hx
   simp at he;subst he
   refine⟨σ x, ?_,hx⟩
   generalize hc:σ x=c at hx
   cases hx<;>simp [execOp,hc]
 ·next op t x y yt =>
  obtain⟨cv,hr,hv⟩:=vv (P:=P) (w:=w) (hρ x) (hρ y) he
  refine⟨cv, ?_,hv⟩
  simp only [execOp]
  rw [bu,hr];rfl
 ·next op t x =>
  obtain⟨cv,hr,hv⟩:=wJ (P:=P) (w:=w) (hρ x) he
  exact⟨cv,by simp [execOp,hr],hv⟩
 ·next s d x =>
  obtain⟨cv,hr,hv⟩:=tU (P:=P) h (hρ x) he
  exact⟨cv,by simp [execOp,hr],hv⟩
 ·next t x =>
  split at he
  ·next hc =>
   simp at he;subst he
   exact⟨.iface t (σ x),by simp [execOp,run_makeInterface w t _ hc],.ifc _ _ _ (hρ x)⟩
  ·cases he
 ·next fn first cap =>
  simp at he;subst he
  refine⟨.func fn (first.map σ) (cap.map σ),by simp [execOp,Instr.makeFunc],.fn _ _ _ _ _ (by simp) (by simp) ?_ ?_⟩
  all_goals
   intro j x v h1 h2
   simp only [aF,a7,je,aJ] at h1 h2
   obtain⟨y,hy,rfl⟩:=h1
   obtain⟨z,hz,rfl⟩:=h2
   rw [hy] at hz;cases hz
   exact hρ y
 ·next t x lo hi mx =>
  obtain⟨cv,hr,hv⟩:=qX (P:=P) (w:=w) (hρ x) (mJ hρ lo) (mJ hρ hi) (mJ hρ mx) he
  exact⟨cv,by simp [execOp,hr],hv⟩
 ·next s x f =>
  obtain⟨cv,hr,hv⟩:=rQ (P:=P) (w:=w) (hρ x) he
  exact⟨cv,by simp [execOp,hr],hv⟩
 ·next t x f =>
  obtain⟨cv,hr,hv⟩:=rO (P:=P) (w:=w) (hρ x) he
  exact⟨cv,by simp [execOp,hr],hv⟩
 ·next t x i =>
  obtain⟨cv,hr,hv⟩:=rJ (P:=P) h (hρ x) (hρ i) he
  exact⟨cv,by simp [execOp,hr],hv⟩
 ·next t x i =>
  obtain⟨cv,hr,hv⟩:=rH (P:=P) (w:=w) (hρ x) (hρ i) he
  exact⟨cv,by simp [execOp,hr],hv⟩
 ·next t x i ok =>
  obtain⟨cv,hr,hv⟩:=pV (P:=P) h (hρ x) (hρ i) he
  exact⟨cv,by simp [execOp,hr],hv⟩
 ·next x xt t ok =>
  obtain⟨cv,hr,hv⟩:=pY (P:=P) (w:=w) (xt:=xt) (hρ x) he
  exact⟨cv,by simp [execOp,hr],hv⟩
 ·next x =>
  obtain⟨cv,hr,hv⟩:=rU (P:=P) h (hρ x) he
  exact⟨cv,by simp [execOp,hr],hv⟩
 ·next x i =>
  split at he
  ·next vs ht =>
   have:=hρ x;rw [ht] at this
   obtain⟨cs,hc,hl,hv⟩:=this.tup_inv
   obtain⟨v,hv1,hv2⟩:=hv i r he
   exact⟨v,by simp [execOp,hc,Instr.extract,hv1],hv2⟩
  ·cases he
 ·next t parts =>
  obtain⟨cv,hr,hv⟩:=sa (P:=P) (w:=w) (vs:=parts.map fun p=>(p.1,σ p.2)) (by simp) (fun j p q hp hq=>by
   simp only [aF,a7,je,aJ] at hp hq
   obtain⟨y,hy,rfl⟩:=hp
   obtain⟨z,hz,rfl⟩:=hq
   rw [hy] at hz;cases hz
   exact⟨rfl,hρ _⟩) he
  exact⟨cv,by simp [execOp,hr],hv⟩
 ·next c =>
  obtain⟨callee,args,ts⟩:=c
  simp only at he
  split at he
  ·next b =>
   unfold mD at he
   split at he
   ·next a g n hargs =>
    obtain⟨x,hx,hxa⟩:=rE hargs
    obtain rfl:args=#[x]:=by rw [← cg (xs:=args),hx]
    split at he
    ·next e sz fz g' els hS =>
     split at he
     ·next hc =>
      obtain⟨rfl,rfl,h1⟩:=hc
      simp at he;subst he
      have hv:=hρ x
      rw [hxa] at hv
      generalize hcx:σ x=c at hv
      cases hv with
      | sown _ _ _ ad cap pl hpl hgl hs =>
       obtain⟨⟨hgen,hpsz⟩,_,_,_,⟨xs,hown,hxs⟩,_⟩:=h.blk a _ pl hS hpl
       have hsv:=hs hgen.symm
       rcases hown.2 with⟨hn,hn0⟩ | ⟨b,cap',cur,hv,hb,hgg,hle,_⟩
       ·omega
       ·rw [hv] at hsv
        cases hsv
        refine⟨.pointer (some ⟨b,0,none⟩), ?_,.oel a g 0 0 _ pl hpl hgl fun _=>⟨b,by rw [hv];rfl,by simp⟩⟩
        have:=Lib.run_unsafeSliceData_row (P:=P) (w:=w) ts ty ⟨b,0,none⟩ els.length cap (by omega)
        simp [execOp,resolve,invoke,builtin,hcx,this]
     ·cases he
    ·cases he
   ·next hargs =>
    obtain⟨x,hx,hxa⟩:=rE hargs
    obtain rfl:args=#[x]:=by rw [← cg (xs:=args),hx]
    simp only [a8] at he;subst he
    have hv:=hρ x
    rw [hxa] at hv
    generalize hcx:σ x=c at hv
    cases hv with
    | snil =>
     have hsd:(Builtin.unsafeSliceData_ ts ty #[.slice none 0 0]).run P w=.ok (.pointer none) w:=rfl
     exact⟨.pointer none,by simp [execOp,resolve,invoke,builtin,hcx,hsd],.nilp⟩
   ·next x t hargs hts =>
    obtain⟨a,ha,rfl⟩:=rE hargs
    obtain rfl:args=#[a]:=by rw [← cg (xs:=args),ha]
    obtain rfl:ts=#[t]:=by rw [← cg (xs:=ts),hts]
    have key:∃ cv,(Builtin.len_ #[t] ty #[σ a]).run P w=.ok cv w∧VR ι ψ r cv:=by
     cases hm:tq S P t (ρ a) with
     | some v=>rw [hm] at he;simp at he;subst he;exact u6 (P:=P) (ty:=ty) h (hρ a) hm
     | none=>rw [hm] at he;exact u7 (P:=P) (ty:=ty) h (hρ a) (by simpa using he)
    obtain⟨cv,hr,hv⟩:=key
    exact⟨cv,by simp [execOp,resolve,invoke,builtin,hr],hv⟩
   ·next k a k' b' hargs =>
    obtain⟨x,y,ha,hx,hy⟩:=wc hargs
    obtain rfl:args=#[x,y]:=by rw [← cg (xs:=args),ha]
    have h1:=hρ x;rw [hx] at h1;have h1:=h1.int_inv
    have h2:=hρ y;rw [hy] at h2;have h2:=h2.int_inv
    simp only [a8] at he;subst he
    exact⟨_,by simp [execOp,resolve,invoke,builtin,h1,h2,run_min_int2],.int _ _⟩
   ·next k a k' b' hargs =>
    obtain⟨x,y,ha,hx,hy⟩:=wc hargs
    obtain rfl:args=#[x,y]:=by rw [← cg (xs:=args),ha]
    have h1:=hρ x;rw [hx] at h1;have h1:=h1.int_inv
    have h2:=hρ y;rw [hy] at h2;have h2:=h2.int_inv
    simp only [a8] at he;subst he
    exact⟨_,by simp [execOp,resolve,invoke,builtin,h1,h2,run_max_int2],.int _ _⟩
   ·cases he
  ·cases he
 ·cases he
end Go.Fen
namespace Go.Fen
open Go.RowKit
variable {P:Program}{w0 w w':World}{ι:List Pl}{ψ:cX}{S:List ax}
theorem lD (base:Nat) (t tx ty e:TypeId) (i:TypeInfo) (z:Value) (ht:P.underlying t=some (.slice e)) (hi:P.info? e=some i) (hz:i.zero=some z)
  (hzs:z.cells.size=i.size) (v:Value) (n:Nat) (xs:List Value) (hown:w.ownsRow base e i.size v n xs) (x:Value) (m:Nat) (news:List Value) (hs:Src P i.size tx x m news w)
  (h63:n+m≤maxLen) (hbytes:(n+m) * i.bytes≤140737488355328) (hbase:base≤w.heap.size) :
  ∃ v' w',(Builtin.append_ #[t,tx] ty #[v,x]).run P w=.ok v' w'∧w'.ownsRow base e i.size v' (n+m) (xs++news)∧w.grownBy w' v.ownBlock ∧
   (∃ ad cap,v'=.slice ad (n+m) cap)∧(v'.ownBlock=v.ownBlock∨(v'.ownBlock=some w.heap.size∧w.grownBy w' none)):=by
 have hsmall:((n+m:Nat):Int)≤9223372036854775807:=by simp only [maxLen] at h63;omega
 have hl:=hs.newsLen
 have hlen:(xs++news).length=(n+m) * i.size:=by rw [ah,hown.1,hl,eE]
 have grown:∀ (old:Nat) (row:Option Nat),
   (w.drew.alloc (.cells ((xs++news).toArray++Builtin.zeroCells z.cells (grownCap w (n+m) old e - (n+m))) e)).ownsRow base e i.size
    (.slice (some ⟨w.heap.size,0,none⟩) (n+m) (grownCap w (n+m) old e)) (n+m) (xs++news) ∧
   w.grownBy (w.drew.alloc (.cells ((xs++news).toArray++Builtin.zeroCells z.cells (grownCap w (n+m) old e - (n+m))) e)) row:=by
  intro old row
  have hge:=grownCap_ge w (n+m) old e
  have hcm:grownCap w (n+m) old e≤maxLen:=grownCap_le_maxLen w (n+m) old e h63
  refine⟨⟨hlen,.inr ⟨w.heap.size,_,_,rfl,hbase,heap_alloc_new w.drew _,hge,hcm, ?_, ?_⟩⟩,⟨rfl,rfl,rfl,by simp,fun k hk _=>Ah w.drew _ k hk⟩⟩
  ·simp only [yb,eR,size_zeroCells,hzs,hlen,← eE]
   congr 1
   omega
  ·simp only [Array.toList_append]
   rw [← hlen]
   exact kU
 rcases hown.2 with⟨rfl,rfl⟩ | ⟨g,cap,cur,rfl,hbg,hg,hnc,hcm,hcs,htake⟩
 ·have hx:xs=[]:=bo (by simpa using hown.1)
  subst hx
  by_cases hm:m=0
  ·subst hm
   have hn:news=[]:=bo (by simpa using hl)
   subst hn
   refine⟨.slice none 0 0,w, ?_,xZ w base e i.size,⟨rfl,rfl,rfl,aP _,fun _ _ _=>rfl⟩,⟨_,_,rfl⟩,.inl rfl⟩
   have hc:=hs.cells
   rcases hs.kind with⟨e',hk⟩ | hk<;>simp [Builtin.append_,run_underlying ht,run_underlying hk,sizeOf,typeInfo,hi,hs.len,hc]
  ·have hr:=run_append_grow_src (P:=P) w t tx ty e i z ht hi hz none 0 0 [] (run_firstCells_none w.drew i.size 0 0 0) x m news hs (by omega) hsmall (growslice_fits (by omega) hbytes)
   obtain⟨h1,h2⟩:=grown 0 (bR (.slice none 0 0))
   exact⟨_,_,hr,h1,h2,⟨_,_,rfl⟩,.inr ⟨rfl,(grown 0 none).2⟩⟩
 ·by_cases hroom:n+m≤cap
  ·have hfit:n * i.size+news.length≤cur.size:=by rw [hl,hcs,← eE];exact bT _ hroom
   have hst:=run_storeCells_at P g (n * i.size) e news 0 cur w hg (by simpa using hfit) hs.one
   simp only [kf] at hst
   have hr:(Builtin.append_ #[t,tx] ty #[.slice (some ⟨g,0,none⟩) n cap,x]).run P w=.ok (.slice (some ⟨g,0,none⟩) (n+m) cap) (w.setRow g (cur.toList.take (n * i.size)++news++cur.toList.drop (n * i.size+news.length)).toArray):=by
    rcases hs.kind with⟨e',hk⟩ | hk<;>simp [Builtin.append_,run_underlying ht,run_underlying hk,sizeOf,typeInfo,hi,hs.len,hroom,hs.cells,Addr.add_lit,hst]
   refine⟨_,_,hr,⟨hlen,.inr ⟨g,cap,_,rfl,hbg,setRow_heap w g cur _ e _ hg,hroom,hcm, ?_, ?_⟩⟩,⟨rfl,rfl,rfl,by simp [uj],fun k _ hk=>setRow_other w g k _ (fun e=>hk (by simp [bR,e]))⟩,⟨_,_,rfl⟩,.inl rfl⟩
   ·simp only [eR,ah,oe,kV,c_]
    omega
   ·rw [htake,← hlen]
    exact kU
  ·have holds:∀ j u,xs[j]? = some u→w.cell? ((⟨g,0,none⟩:Addr).add j)=some u:=hown.cells (g:=g) rfl
   have hr:=run_append_grow_src (P:=P) w t tx ty e i z ht hi hz (some ⟨g,0,none⟩) n cap xs (run_firstCells_some w.drew i.size n ⟨g,0,none⟩ n cap xs hown.1 (by simpa using holds)) x m news hs (by omega) hsmall (growslice_fits (by omega) hbytes)
   obtain⟨h1,h2⟩:=grown cap (bR (.slice (some ⟨g,0,none⟩) n cap))
   exact⟨_,_,hr,h1,h2,⟨_,_,rfl⟩,.inr ⟨rfl,(grown cap none).2⟩⟩
def oD (P:Program) (S:List ax) (tx:TypeId) (x:AV):Option (List AV) :=
 match P.underlying tx,x with
 | some (.slice _),.snil=>some []
 | some (.slice _),.sval _ els=>some els
 | some (.slice _),.sown a g n=>match S[a]? with
  | some (.arr _ _ _ g' els)=>if g=g'∧n=els.length then some els else none
  | _=>none
 | some .string,.str s=>some (s.map fun b=>.int .u8 b.toNat)
 | _,_=>none
def cC (sz:Nat) (els:List AV):Bool:=els.all fun e=>e.cells.length==sz&&e.cells.all AV.leaf
theorem dZ {sz:Nat}{els:List AV} (h:cC sz els=true):∀ x∈els,x.cells.length=sz:=by
 intro x hx
 have:=aq.1 h x hx
 simp at this;exact this.1
theorem oO {sz:Nat}{els:List AV} (h:cC sz els=true){j:Nat}{x:AV} (hx:(dg els)[j]? = some x):x.leaf=true:=by
 have hm:=ar hx
 unfold dg at hm
 obtain⟨e,he,hxe⟩:=List.mem_flatMap.1 hm
 have:=aq.1 h e he
 simp at this;exact this.2 x hxe
theorem tZ (f:Nat→Value) (n:Nat):∀ j,j<n→((bC n).map f)[j]? = some (f j):=by
 intro j hj;simp [hj]
theorem jD (h:b7 w0 ι ψ S w){tx:TypeId}{x:AV}{c:Value}{els:List AV}{sz:Nat} (hx:VR ι ψ x c) (hs:oD P S tx x=some els) (hok:cC sz els=true) (hpos:0<sz) :
  ∃ news,Src P sz tx c els.length news w∧news.length=(dg els).length∧∀ (j:Nat) (y:AV),(dg els)[j]? = some y→∃ v,news[j]? = some v∧VR ι ψ y v:=by
 have hlen:=dZ hok
 have hfl:=cO hlen
 unfold oD at hs
 split at hs
 ·next e' hu =>
  simp at hs;subst hs
  cases hx with
  | snil=>exact⟨[],Src.ofNil w hu 0,rfl,fun j y e=>by simp [dg] at e⟩
 ·next e' full els' hu =>
  simp at hs;subst hs
  cases hx with
  | svnil=>exact⟨[],Src.ofNil w hu 0,rfl,fun j y e=>by simp [dg] at e⟩
  | sval sz' _ _ b o cap cv hsz hcap hf h1 h2 =>
   by_cases hnil:els'=[]
   ·subst hnil
    exact⟨[],Src.ofSlice w hu ⟨b,o,none⟩ 0 cap [] (by simp) (by simp) (by simp),rfl,fun j y e=>by simp [dg] at e⟩
   ·have hszz:sz'=sz:=by
     cases els' with
     | nil=>exact absurd rfl hnil
     | cons e r=>rw [← hsz 0 e rfl];exact hlen e (by simp)
    subst hszz
    have get:∀ (k:Nat) (y:AV),(dg els')[k]? = some y→y.leaf=true∧w.cell? ⟨b,o+k,none⟩=some (cv (k / sz') (k % sz'))∧VR ι ψ y (cv (k / sz') (k % sz')):=by
     intro k y hy
     obtain⟨e,he,hk⟩:=my hlen hpos hy
     have g1:=h1 _ _ _ _ he hk
     have:=h.psi _ _ _ g1.2
     rw [qK,Ch k sz'] at this
     exact⟨g1.1,this,h2 _ _ _ _ he hk⟩
    let f:Nat→Value:=fun k=>cv (k / sz') (k % sz')
    have hn:∀ j u,((bC (dg els').length).map f)[j]? = some u→w.cell? ((⟨b,o,none⟩:Addr).add j)=some u:=by
     intro j u hu
     have hj:j<(dg els').length:=by have:=(ab.1 hu).1;simpa using this
     rw [tZ f _ j hj] at hu;cases hu
     rw [Addr.add_lit]
     exact(get j _ (al hj)).2.1
    refine⟨(bC (dg els').length).map f,Src.ofSlice w hu ⟨b,o,none⟩ _ cap _ (by simp [hfl]) hn ?_,by simp,fun j y e=>⟨f j,tZ f _ j (ab.1 e).1,(get j y e).2.2⟩⟩
    intro u hu
    obtain⟨j,hj,rfl⟩:=aH.1 hu
    have hj':j<(dg els').length:=by simpa using hj
    obtain⟨g1,_,g3⟩:=get j _ (al hj')
    exact g3.oneCell g1
 ·next e' a g n hu =>
  split at hs
  ·next e2 sz' fz g' els' hS =>
   split at hs
   ·next hg =>
    obtain⟨rfl,rfl⟩:=hg
    simp at hs;subst hs
    cases hx with
    | sown _ _ _ ad cap pl hpl hgl hs' =>
     obtain⟨⟨hgen,hpsz⟩,hsz,hpos',_,⟨xs,hown,hxs⟩,_⟩:=h.blk a _ pl hS hpl
     have hsv:=hs' hgen.symm
     rcases hown.2 with⟨hn,hn0⟩ | ⟨b,cap',cur,hv,hb',hgg,_⟩
     ·rw [hn] at hsv
      simp only [fo] at hsv
      obtain⟨rfl,h0,rfl⟩:=hsv
      have:els'=[]:=bo (by omega)
      subst this
      exact⟨[],Src.ofNil w hu 0,rfl,fun j y e=>by simp [dg] at e⟩
     ·rw [hv] at hsv
      simp only [fo] at hsv
      obtain⟨rfl,_,rfl⟩:=hsv
      by_cases hnil:els'=[]
      ·subst hnil
       exact⟨[],Src.ofSlice w hu ⟨b,0,none⟩ 0 _ [] (by simp) (by simp) (by simp),rfl,fun j y e=>by simp [dg] at e⟩
      ·have hszz:sz'=sz:=by
        cases els' with
        | nil=>exact absurd rfl hnil
        | cons e r=>rw [← hsz e (by simp)];exact hlen e (by simp)
       subst hszz
       have hxl:xs.length=(dg els').length:=by rw [hown.1,hfl]
       refine⟨xs,Src.ofSlice w hu ⟨b,0,none⟩ _ _ xs hown.1 (hown.cells (g:=b) (by rw [hv];rfl)) ?_,hxl,fun j y e=>?_⟩
       ·intro u hu
        obtain⟨j,hj⟩:=aQ hu
        have hj':j<(dg els').length:=by rw [← hxl];exact(ab.1 hj).1
        obtain⟨g1,v,g2,g3,_⟩:=hxs j _ (al hj')
        rw [hj] at g2;cases g2
        exact g3.oneCell g1
       ·obtain⟨_,v,g2,g3,_⟩:=hxs j y e
        exact⟨v,g2,g3⟩
   ·cases hs
  ·cases hs
 ·next s hu =>
  simp at hs;subst hs
  obtain rfl:=hx.str_inv
  by_cases hnil:s=[]
  ·subst hnil
   refine⟨[], ?_,rfl,fun j y e=>by simp [dg] at e⟩
   refine⟨.inr hu,fun _=>rfl, ?_, ?_,by simp,fun _ h=>by cases h⟩<;>simp [Builtin.firstCells]
  ·have hs1:sz=1:=by
    cases s with
    | nil=>exact absurd rfl hnil
    | cons b r=>have:=hlen (.int .u8 b.toNat) (by simp);simpa [AV.cells] using this.symm
   subst hs1
   have hflat:dg (s.map fun b=>AV.int .u8 (b.toNat:Int))=s.map fun b=>AV.int .u8 b.toNat:=by
    clear hok hlen hfl hnil hx
    unfold dg
    induction s with
    | nil=>rfl
    | cons b r ih=>simp [AV.cells,ih]
   have:=Src.ofString (P:=P) w hu (⟨s.toArray⟩:ByteArray)
   refine⟨byteCells ⟨s.toArray⟩,by simpa [ie] using this,by simp [byteCells,hflat],fun j y e=>?_⟩
   rw [hflat] at e
   simp only [aF,aJ] at e
   obtain⟨b,hb,rfl⟩:=e
   exact⟨.int .u8 b.toNat,by simp [byteCells,hb],.int _ _⟩
 ·cases hs
theorem nu (a b:List AV):dg (a++b)=dg a++dg b:=by simp [dg]
def nA (P:Program) (e:TypeId):Option (Nat × Nat × Nat):=(P.info? e).bind fun i=>i.zero.map fun z=>(i.size,i.bytes,z.cells.size)
theorem pc {e:TypeId}{a b c:Nat} (h:nA P e=some (a,b,c)):∃ i z,P.info? e=some i∧i.zero=some z∧i.size=a∧i.bytes=b∧z.cells.size=c:=by
 unfold nA at h
 cases hi:P.info? e with
 | none=>simp [hi] at h
 | some i =>
  cases hz:i.zero with
  | none=>simp [hi,hz] at h
  | some z=>simp [hi,hz] at h;exact⟨i,z,rfl,hz,h⟩
def oa (P:Program) (S:List ax) (t tx:TypeId) (s x:AV):Option (AV × List ax) :=
 match P.underlying t,oD P S tx x with
 | some (.slice e),some news=>match nA P e with
  | some (sz,bytes,zs)=>if cC sz news=true∧0<sz∧0<bytes∧zs=sz then (match s with
    | .sown a g n=>match S[a]? with
     | some (.arr e' sz' fz g' els) =>
      if g=g'∧n=els.length∧e'=e∧sz'=sz∧(n+news.length) * bytes≤140737488355328 then some (.sown a (g+1) (n+news.length),S.set a (.arr e sz fz (g+1) (els++news))) else none
     | _=>none
    | .snil=>if news.length * bytes≤140737488355328 then some (.sown S.length 1 news.length,S++[.arr e sz 0 1 news]) else none
    | .sval true els=>if news=[] then some (.sval true els,S) else
      if cC sz els=true∧(els.length+news.length) * bytes≤140737488355328 then some (.sown S.length 0 (els.length+news.length),S++[.arr e sz 0 0 (els++news)]) else none
    | _=>none) else none
  | none=>none
 | _,_=>none
theorem ru {sz:Nat}{a b:List AV}:cC sz (a++b)=(cC sz a&&cC sz b):=by simp [cC]
theorem g8 {n b:Nat} (hb:0<b) (h:n * b≤140737488355328):n≤maxLen:=by
 have:=dB (ke n hb) h
 simp only [maxLen];omega
theorem pB (h:b7 w0 ι ψ S w){a g n:Nat}{c:Value}{e:TypeId}{sz fz:Nat}{els news:List AV}{i:TypeInfo}{z:Value}{t tx ty:TypeId}{x:AV}{d:Value}
  (hs:VR ι ψ (.sown a g n) c) (hS:S[a]? = some (.arr e sz fz g els)) (hn:n=els.length) (ht:P.underlying t=some (.slice e)) (hi:P.info? e=some i) (hz:i.zero=some z) (hzs:z.cells.size=i.size)
  (hsz:sz=i.size) (hpos:0<i.size) (hbp:0<i.bytes) (hx:VR ι ψ x d) (hsrc:oD P S tx x=some news) (hok:cC i.size news=true) (hb:(n+news.length) * i.bytes≤140737488355328) :
  ∃ ι' ψ' w' cv,(Builtin.append_ #[t,tx] ty #[c,d]).run P w=.ok cv w'∧cN ι ψ ι' ψ'∧b7 w0 ι' ψ' (S.set a (.arr e sz fz (g+1) (els++news))) w'∧VR ι' ψ' (.sown a (g+1) (n+news.length)) cv:=by
 subst hn hsz
 cases hs with
 | sown _ _ _ ad cap pl hpl hgl hs' =>
  have hB:=h.blk a _ pl hS hpl
  obtain⟨⟨hgen,hpsz⟩,hsize,_,hfz,⟨xs,hown,hxs⟩,hps⟩:=hB
  have hsv:=hs' hgen.symm
  obtain⟨nv,hsrcV,hnl,hnv⟩:=jD h hx hsrc hok hpos
  obtain⟨v',w',hr,hown',hgr,⟨ad',cap',hv'⟩,hplace⟩:=lD (w:=w) w0.heap.size t tx ty e i z ht hi hz hzs pl.sv els.length xs hown d news.length nv hsrcV (g8 hbp hb) hb h.n0
  rw [← hsv] at hr
  let pl':Pl:=⟨pl.blk,g+1,v',i.size⟩
  have hxl:xs.length=els.length * i.size:=hown.1
  obtain⟨ψ',hle,hm',hsub,hroof⟩:∃ ψ':cX,ψ.le ψ'∧ψ'.m=ψ.m ∧
    (∀ k o,ψ'.c k o=ψ.c k o∨(v'.ownBlock=some k∧k=w.heap.size∧pl.sv.ownBlock≠some k∧ψ'.c k o=(xs.take (fz * i.size))[o]?)) ∧
    (∀ k,v'.ownBlock=some k→(pl.sv.ownBlock=some k∧∀ o,ψ'.c k o=ψ.c k o)∨(k=w.heap.size∧∀ o,ψ'.c k o=(xs.take (fz * i.size))[o]?)):=by
   rcases hplace with hp | ⟨hp,_⟩
   ·exact⟨ψ,cX.le_refl _,rfl,fun _ _=>.inl rfl,fun k hk=>.inl ⟨by rw [← hp];exact hk,fun _=>rfl⟩⟩
   ·have hne:pl.sv.ownBlock≠some w.heap.size:=fun hk=>by
     have:=(h.blk a _ pl hS hpl).at_lt (k:=w.heap.size) hk;omega
    refine⟨ψ.addRow w.heap.size (xs.take (fz * i.size)),cX.le_addRow (fun o v e=>by rw [h.psi_new (aP _)] at e;cases e),rfl,fun k o=>?_,fun k hk=>?_⟩
    ·by_cases hk:k=w.heap.size
     ·subst hk;exact .inr ⟨hp,rfl,hne,by simp [cX.addRow]⟩
     ·exact .inl (by simp [cX.addRow,hk])
    ·rw [hp] at hk;cases hk
     exact .inr ⟨rfl,fun o=>by simp [cX.addRow]⟩
  have hext:cN ι ψ (ι.set a pl') ψ':=by
   refine⟨fun j p hj=>?_,hle⟩
   by_cases hja:j=a
   ·subst hja
    rw [hpl] at hj;cases hj
    have hlt:j<ι.length:=(ab.1 hpl).1
    exact⟨pl',by simp [hlt],rfl,by simp [pl',hgen],fun e=>by simp [pl',hgen] at e⟩
   ·exact⟨p,by rw [bl (by omega)];exact hj,rfl,aP _,fun _=>rfl⟩
  have hltS:a<ι.length:=(ab.1 hpl).1
  have hfzb:fz * i.size≤xs.length:=by rw [hxl];exact bT _ hfz
  refine⟨ι.set a pl',ψ',w',v',hr,hext, ?_, ?_⟩
  ·refine h.update hS hpl ?_ ?_ hext ?_ ?_ ?_ hm'
   ·refine⟨hgr.os,hgr.tape,hgr.output,hgr.size,fun k hk=>hgr.block k (jS hk h.n0) fun e=>?_⟩
    have:=(h.blk a _ pl hS hpl).at_lt (k:=k) e.symm;omega
   ·intro k hk hlt
    exact hgr.block k hlt (fun e=>hk e.symm)
   ·refine⟨⟨rfl,rfl⟩, ?_,hpos,by simp;omega,⟨xs++nv,by simpa using hown',fun j x e=>?_⟩,fun k o hk ho=>?_⟩
    ·intro x hx
     rcases bv.1 hx with hx | hx
     ·exact hsize x hx
     ·exact dZ hok x hx
    ·rw [nu] at e
     have hfl:(dg els).length=xs.length:=by rw [cO hsize,hxl]
     by_cases hj:j<(dg els).length
     ·rw [ap hj] at e
      obtain⟨hlf,v,hv,hvr,hfr⟩:=hxs j x e
      refine⟨hlf,v,by rw [ap (by omega)];exact hv,hvr.mono hext,fun hjf k hk=>?_⟩
      rcases hroof k hk with⟨hk2,ho⟩ | ⟨rfl,ho⟩
      ·rw [ho];exact hfr hjf k hk2
      ·rw [ho,aV,if_pos hjf];exact hv
     ·rw [aw (by omega)] at e
      obtain⟨v,hv,hvr⟩:=hnv _ x e
      refine⟨oO hok e,v,by rw [aw (by omega),← hfl];exact hv,hvr.mono hext,fun hjf=>by omega⟩
    ·rcases hroof k hk with⟨hk2,ho2⟩ | ⟨rfl,ho2⟩
     ·rw [ho2];exact hps k o hk2 ho
     ·rw [ho2];simp;omega
   ·intro k hk
    rcases hroof k hk with⟨hk2,_⟩ | ⟨rfl,_⟩
    ·exact .inl hk2
    ·exact .inr (aP _)
   ·intro k o v e
    rcases hsub k o with hs1 | ⟨hk1,hk2,hk3,hs1⟩
    ·rw [hs1] at e
     by_cases hk:pl.sv.ownBlock=some k
     ·-- a frozen cell of the old row
      have ho:o<fz * i.size:=sm fun hge=>by rw [hps k o hk hge] at e;cases e
      have hof:o<(dg els).length:=by rw [cO hsize];omega
      obtain⟨_,v2,hv2,_,hfr⟩:=hxs o _ (al hof)
      rw [hfr ho k hk] at e;cases e
      refine .inr ⟨.inl hk, ?_⟩
      rcases hplace with hp | ⟨hp,hgn⟩
      ·have:=hown'.cells (g:=k) (by rw [hp];exact hk) o v (by rw [ap (by omega)];exact hv2)
       rw [Addr.add_lit,di] at this;exact this
      ·have hlt:=((h.blk a _ pl hS hpl).at_lt (k:=k) hk).2
       rw [lk (hgn.block k hlt (by simp))]
       have:=hown.cells (g:=k) hk o v hv2
       rw [Addr.add_lit,di] at this;exact this
     ·exact .inl ⟨e,hk⟩
    ·rw [hs1] at e
     have ho:o<fz * i.size:=by
      have:=(ab.1 e).1;simp at this;omega
     rw [aV,if_pos ho] at e
     refine .inr ⟨.inr (by omega), ?_⟩
     have:=hown'.cells (g:=k) hk1 o v (by rw [ap (by omega)];exact e)
     rw [Addr.add_lit,di] at this;exact this
  ·rw [hv']
   exact .sown a (g+1) _ ad' cap' pl' (by simp [hltS]) (aP _) (fun _=>hv'.symm)
end Go.Fen
namespace Go.Fen
open Go.RowKit
variable {P:Program}{w0 w w':World}{ι:List Pl}{ψ:cX}{S:List ax}
theorem na (cs:List AV):(AV.agg cs).cells=cs:=rfl
theorem rM {els:List AV}{sz:Nat} (h:∀ x∈els,x.cells.length=sz) (hp:0<sz) (k:Nat):(dg els)[k]? = (els[k / sz]?).bind (fun e=>e.cells[k % sz]?):=by
 cases hx:(dg els)[k]? with
 | some x =>
  obtain⟨e,h1,h2⟩:=my h hp hx
  simp [h1,h2]
 | none =>
  have hl:=cO h
  have:els.length * sz≤k:=by rw [← hl];simpa using hx
  have hge:els.length≤k / sz:=(Nat.le_div_iff_mul_le hp).2 this
  rw [bz hge];rfl
theorem b7.newArr (h:b7 w0 ι ψ S w) (e:TypeId) (sz n cap:Nat) (els:List AV) (cur:Array Value) (hn:n=els.length) (hok:cC sz els=true) (hpos:0<sz) (hcap:n≤cap) (hm:cap≤maxLen) (hc:cur.size=cap * sz)
  (hv:∀ (j:Nat) (x:AV),(dg els)[j]? = some x→∃ v,cur[j]? = some v∧VR ι ψ x v) :
  b7 w0 (ι++[⟨0,0,.slice (some ⟨w.heap.size,0,none⟩) n cap,sz⟩]) ψ (S++[.arr e sz 0 0 els]) (w.alloc (.cells cur e)):=by
 subst hn
 have h1:=h.alloc (.cells cur e)
 have hfl:=cO (dZ hok)
 have hle:els.length * sz≤cur.size:=by rw [hc];exact bT _ hcap
 refine h1.push _ _ ⟨⟨rfl,rfl⟩,dZ hok,hpos,bx _,⟨cur.toList.take (els.length * sz),⟨by simp;omega,.inr ⟨w.heap.size,cap,cur,rfl,h.n0,heap_alloc_new w _,hcap,hm,hc,rfl⟩⟩,fun j x ex=>?_⟩,fun k o hk _=>?_⟩ ?_
 ·obtain⟨v,hv1,hv2⟩:=hv j x ex
  have hj:j<els.length * sz:=by rw [← hfl];exact(ab.1 ex).1
  exact⟨oO hok ex,v,by rw [aV,if_pos hj];simpa using hv1,hv2.mono (cN.push ι ψ _),fun hlt=>by omega⟩
 ·simp [bR] at hk
  subst hk
  exact h.psi_new (aP _) o
 ·intro k hk i C q hC hq hk2
  simp [ax.at,bR] at hk
  subst hk
  have:=((h.blk i C q hC hq).at_lt hk2).2
  omega
theorem uc (h:b7 w0 ι ψ S w){els news:List AV}{c:Value}{e:TypeId}{i:TypeInfo}{z:Value}{t tx ty:TypeId}{x:AV}{d:Value}
  (hs:VR ι ψ (.sval true els) c) (ht:P.underlying t=some (.slice e)) (hi:P.info? e=some i) (hz:i.zero=some z) (hzs:z.cells.size=i.size)
  (hpos:0<i.size) (hbp:0<i.bytes) (hx:VR ι ψ x d) (hsrc:oD P S tx x=some news) (hok:cC i.size news=true) (hok2:cC i.size els=true) (hne:news≠[]) (hb:(els.length+news.length) * i.bytes≤140737488355328) :
  ∃ ι' w' cv,(Builtin.append_ #[t,tx] ty #[c,d]).run P w=.ok cv w'∧cN ι ψ ι' ψ∧b7 w0 ι' ψ (S++[.arr e i.size 0 0 (els++news)]) w'∧VR ι' ψ (.sown S.length 0 (els.length+news.length)) cv:=by
 obtain⟨nv,hsrcV,hnl,hnv⟩:=jD h hx hsrc hok hpos
 obtain⟨ov,hsrcO,hol,hov⟩:=jD (P:=P) (tx:=t) h hs (by simp [oD,ht]) hok2 hpos
 obtain⟨a,cap,rfl,hcap,hf⟩:=hs.sval_len
 have hcap':=hf rfl
 subst hcap'
 have hml:=g8 hbp hb
 have hlt:0<news.length:=List.length_pos_iff.2 hne
 have hsmall:((els.length+news.length:Nat):Int)≤9223372036854775807:=by simp only [maxLen] at hml;omega
 have hr:=run_append_grow_src (P:=P) w t tx ty e i z ht hi hz a els.length els.length ov hsrcO.cellsD d news.length nv hsrcV (by omega) hsmall (growslice_fits (by omega) hb)
 have hge:=grownCap_ge w (els.length+news.length) els.length e
 have hcm:=grownCap_le_maxLen w (els.length+news.length) els.length e hml
 have hfe:=cO (dZ hok2)
 have hfn:=cO (dZ hok)
 have key:=h.drew.newArr e i.size (els.length+news.length) (grownCap w (els.length+news.length) els.length e) (els++news)
  ((ov++nv).toArray++Builtin.zeroCells z.cells (grownCap w (els.length+news.length) els.length e - (els.length+news.length))) (by simp) (by rw [ru,hok,hok2];rfl) hpos hge hcm ?_ ?_
 ·refine⟨_,_,_,hr,cN.push ι ψ _,key, ?_⟩
  refine .sown _ _ _ _ _ ⟨0,0,.slice (some ⟨w.heap.size,0,none⟩) (els.length+news.length) (grownCap w (els.length+news.length) els.length e),i.size⟩ ?_ (aP _) (fun _=>rfl)
  rw [← h.len];simp
 ·simp only [yb,eR,size_zeroCells,hzs,ah,hol,hnl,hfe,hfn,← eE]
  congr 1;omega
 ·intro j x ex
  rw [nu] at ex
  have hget:∀ v:Value,(ov++nv)[j]? = some v→((ov++nv).toArray++Builtin.zeroCells z.cells (grownCap w (els.length+news.length) els.length e - (els.length+news.length)))[j]? = some v:=by
   intro v hv
   have hlt:=(ab.1 hv).1
   rw [fq (by simpa using hlt)]
   simpa using hv
  by_cases hj:j<(dg els).length
  ·rw [ap hj] at ex
   obtain⟨v,hv,hvr⟩:=hov j x ex
   exact⟨v,hget v (by rw [ap (by omega)];exact hv),hvr⟩
  ·rw [aw (by omega)] at ex
   obtain⟨v,hv,hvr⟩:=hnv _ x ex
   exact⟨v,hget v (by rw [aw (by omega),hol];exact hv),hvr⟩
theorem ub (h:b7 w0 ι ψ S w){full:Bool}{els:List AV}{c:Value}{e:TypeId}{i:TypeInfo}{t tx ty:TypeId}{x:AV}{d:Value}
  (hs:VR ι ψ (.sval full els) c) (ht:P.underlying t=some (.slice e)) (hi:P.info? e=some i) (hpos:0<i.size) (hx:VR ι ψ x d) (hsrc:oD P S tx x=some []) :
  (Builtin.append_ #[t,tx] ty #[c,d]).run P w=.ok c w:=by
 obtain⟨nv,hsrcV,hnl,_⟩:=jD h hx hsrc (sz:=i.size) rfl hpos
 have:nv=[]:=bo (by rw [hnl];rfl)
 subst this
 obtain⟨a,cap,rfl,hcap,_⟩:=hs.sval_len
 have hc:=hsrcV.cells
 have hl:=hsrcV.len
 simp only [aU] at hc hl
 rcases hsrcV.kind with⟨e',hk⟩ | hk<;>cases a<;>simp [Builtin.append_,run_underlying ht,run_underlying hk,sizeOf,typeInfo,hi,hl,hc,hcap,storeCells]
theorem b7.thaw (h:b7 w0 ι ψ S w) (e:TypeId) (sz:Nat) (hpos:0<sz):b7 w0 (ι++[⟨0,0,.slice none 0 0,sz⟩]) ψ (S++[.arr e sz 0 0 []]) w:=by
 refine h.push _ _ ⟨⟨rfl,rfl⟩,by simp,hpos,aP _,⟨[],xZ w _ e sz,fun j x ex=>by simp [dg] at ex⟩,fun k o hk _=>by simp [bR] at hk⟩ ?_
 intro k hk
 simp [ax.at,bR] at hk
theorem wO {B:ax}{tx:TypeId}{x:AV}{els:List AV} (h:oD P S tx x=some els):oD P (S++[B]) tx x=some els:=by
 unfold oD at h ⊢
 split at h
 ·exact h
 ·exact h
 ·next e a g n hu =>
  split at h
  ·next e' sz fz g' els' hS =>
   rw [ap (ab.1 hS).1,hS]
   exact h
  ·cases h
 ·exact h
 ·cases h
theorem pZ (h:b7 w0 ι ψ S w){t tx ty:TypeId}{s x r:AV}{c d:Value}{S':List ax} (hs:VR ι ψ s c) (hx:VR ι ψ x d) (he:oa P S t tx s x=some (r,S')) :
  ∃ ι' ψ' w' cv,(Builtin.append_ #[t,tx] ty #[c,d]).run P w=.ok cv w'∧cN ι ψ ι' ψ'∧b7 w0 ι' ψ' S' w'∧VR ι' ψ' r cv:=by
 unfold oa at he
 split at he
 ·next e news hu hsrc =>
  split at he
  ·next sz bytes zs hei =>
   obtain⟨i,z,hi,hz,rfl,rfl,rfl⟩:=pc hei
   split at he
   ·next hc =>
    obtain⟨hok,hpos,hbp,hzs⟩:=hc
    split at he
    ·next a g n =>
     split at he
     ·next e' sz fz g' els hS =>
      split at he
      ·next hcond =>
       obtain⟨rfl,rfl,rfl,rfl,hb⟩:=hcond
       simp at he
       obtain⟨rfl,rfl⟩:=he
       exact pB h hs hS rfl hu hi hz hzs rfl hpos hbp hx hsrc hok hb
      ·cases he
     ·cases he
    ·split at he
     ·next hb =>
      simp at he
      obtain⟨rfl,rfl⟩:=he
      have hth:=h.thaw e i.size hpos
      cases hs with
      | snil =>
       have hsv:VR (ι++[⟨0,0,.slice none 0 0,i.size⟩]) ψ (.sown S.length 0 0) (.slice none 0 0) :=
        .sown _ _ _ _ _ ⟨0,0,.slice none 0 0,i.size⟩ (by rw [← h.len];simp) (aP _) (fun _=>rfl)
       obtain⟨ι',ψ',w',cv,k1,k2,k3,k4⟩:=pB (P:=P) (ty:=ty) hth hsv (els:=[]) (news:=news) (fz:=0) (by simp) rfl hu hi hz hzs rfl hpos hbp (hx.mono (cN.push ι ψ _)) (wO hsrc) hok (by simpa using hb)
       refine⟨ι',ψ',w',cv,k1,(cN.push ι ψ _).trans k2, ?_,by simpa using k4⟩
       simpa using k3
     ·cases he
    ·next els =>
     split at he
     ·next hn =>
      subst hn
      simp at he
      obtain⟨rfl,rfl⟩:=he
      exact⟨ι,ψ,w,c,ub h hs hu hi hpos hx hsrc,cN.refl _ _,h,hs⟩
     ·next hn =>
      split at he
      ·next hcond =>
       simp at he
       obtain⟨rfl,rfl⟩:=he
       obtain⟨ι',w',cv,h1,h2,h3,h4⟩:=uc (P:=P) (ty:=ty) h hs hu hi hz hzs hpos hbp hx hsrc hok hcond.1 hn hcond.2
       exact⟨ι',ψ,w',cv,h1,h2,h3,h4⟩
      ·cases he
    ·cases he
   ·cases he
  ·cases he
 ·cases he
def gN (cs:List AV):Bool:=cs.all AV.leaf
theorem gY {cs:List AV} (h:gN cs=true){j:Nat}{x:AV} (hx:cs[j]? = some x):x.leaf=true:=aq.1 h x (ar hx)
theorem CR.newCells (h:b7 w0 ι ψ S w){cs:List AV}{c:Array Value} (hc:CR ι ψ cs c) (hl:gN cs=true) (T:TypeId) (ty:Option TypeId:=none) (hty:∀ t,ty=some t→T=t:=by intro t e;cases e) :
  b7 w0 (ι++[⟨w.heap.size,0,undef,0⟩]) ψ (S++[.cells cs ty]) (w.alloc (.cells c T))∧VR (ι++[⟨w.heap.size,0,undef,0⟩]) ψ (.own S.length 0) (.pointer (some ⟨w.heap.size,0,none⟩)):=by
 refine⟨h.newCells cs c T hc.1.symm (fun j x e=>⟨gY hl e,hc.2 j x e⟩) ty hty, ?_⟩
 have:=VR.own (ι:=ι++[⟨w.heap.size,0,undef,0⟩]) (ψ:=ψ) S.length 0 ⟨w.heap.size,0,undef,0⟩ (by rw [← h.len];simp)
 exact this
def qU (P:Program) (S:List ax) (t:TypeId) (x v:AV):Option (List ax) :=
 match dG P t,x with
 | some n,.own a off=>match S[a]? with
  | some (.cells cs ty)=>if v.cells.length=n∧v.isJunk=false∧gN v.cells=true∧off+n≤cs.length then some (S.set a (.cells (eV cs off v.cells) ty)) else none
  | _=>none
 | some n,.oel a g i off=>match S[a]? with
  | some (.arr e sz fz g' els)=>match els[i]? with
   | some el=>if g=g'∧fz≤i∧v.cells.length=n∧v.isJunk=false∧gN v.cells=true∧off+n≤sz then
     some (S.set a (.arr e sz fz g (els.set i (if n=sz then v else .agg (eV el.cells off v.cells))))) else none
   | none=>none
  | _=>none
 | _,_=>none
theorem CR.oneCell {x:AV}{c:Value} (hx:VR ι ψ x c) (hj:x.isJunk=false) (hl:gN x.cells=true):∀ v∈c.cells.toList,v.oneCell'=true:=by
 obtain⟨hs,hv⟩:=hx.cells (by intro e;subst e;simp [AV.isJunk] at hj)
 intro v hm
 obtain⟨j,hjv⟩:=aQ hm
 have hlt:j<x.cells.length:=by rw [← hs];have:=(ab.1 hjv).1;simpa using this
 obtain⟨v',h1,h2⟩:=hv j _ (al hlt)
 simp at hjv
 rw [hjv] at h1;cases h1
 exact h2.oneCell (gY hl (al hlt))
theorem qT (h:b7 w0 ι ψ S w){t:TypeId}{x v:AV}{c d:Value}{S':List ax} (hx:VR ι ψ x c) (hv:VR ι ψ v d) (he:qU P S t x v=some S') :
  ∃ w',(lZ t c d).run P w=.ok () w'∧b7 w0 ι ψ S' w':=by
 unfold qU at he
 split at he
 ·next n a off hn =>
  split at he
  ·next cs ty hS =>
   split at he
   ·next hc =>
    obtain⟨h1,h2,h3,h4⟩:=hc
    simp at he;subst he
    cases hx with
    | own _ _ pl hpl =>
     obtain⟨hs,hvv⟩:=hv.cells (by intro e;subst e;simp [AV.isJunk] at h2)
     obtain⟨w',hr,hR⟩:=h.storeCells (P:=P) hS hpl off v.cells d.cells.toList (by simp [hs]) (fun j x e=>⟨gY h3 e,by simpa using hvv j x e⟩) (CR.oneCell hv h2 h3) (by omega)
     refine⟨w', ?_,hR⟩
     simp [lZ,cQ,storeVar,bP hn,hs,h1,hr]
   ·cases he
  ·cases he
 ·next n a g i off hn =>
  split at he
  ·next e sz fz g' els hS =>
   split at he
   ·next el hel =>
    split at he
    ·next hc =>
     obtain⟨rfl,hfi,h1,h2,h3,h4⟩:=hc
     simp at he;subst he
     cases hx with
     | oel _ _ _ _ ad pl hpl hgl hs' =>
      have hB:=h.blk a _ pl hS hpl
      obtain⟨⟨hgen,hpsz⟩,hsize,hpos,hfz,⟨xs,hown,hxs⟩,hps⟩:=hB
      obtain⟨b,hb,rfl⟩:=hs' hgen.symm
      obtain⟨hs,hvv⟩:=hv.cells (by intro e;subst e;simp [AV.isJunk] at h2)
      rcases hown.2 with⟨hnil,_⟩ | ⟨b',cap,cur,hsv,hbg,hg,hnc,hcm,hcs,htake⟩
      ·rw [hnil] at hb;simp [bR] at hb
      ·have hbb:b'=b:=by rw [hsv] at hb;simpa [bR] using hb
       subst hbb
       have hil:i<els.length:=(ab.1 hel).1
       have hell:el.cells.length=sz:=hsize el (ar hel)
       have hbound:i * sz+sz≤els.length * sz:=by rw [← fC];exact bT _ hil
       have hcur:els.length * sz≤cur.size:=by rw [hcs];exact bT _ hnc
       have hst:=run_storeCells_at P b' (i * sz+off) e d.cells.toList 0 cur w hg (by simp [hs];omega) (CR.oneCell hv h2 h3)
       simp only [kf] at hst
       have hrun:(lZ t (.pointer (some ⟨b',i * sz+off,none⟩)) d).run P w=(Go.storeCells ⟨b',i * sz+off,none⟩ d.cells.toList).run P w:=by
        simp [lZ,cQ,storeVar,bP hn,hs,h1]
       refine⟨_,by rw [hpsz];exact hrun.trans hst, ?_⟩
       have hset:ι.set a pl=ι:=eK hpl
       let el':AV:=if n=sz then v else .agg (eV el.cells off v.cells)
       have hcells:∀ j,el'.cells[j]? = if off≤j∧j<off+n then v.cells[j - off]? else el.cells[j]?:=by
        intro j
        by_cases hnsz:n=sz
        ·have hoff:off=0:=by omega
         subst hoff
         simp only [el',if_pos hnsz,bx,true_and,di,Nat.sub_zero]
         split
         ·rfl
         ·rw [bz (by omega),bz (by omega)]
        ·simp only [el',if_neg hnsz,na]
         rw [eV,d8 el.cells v.cells off j (by omega),h1]
       have hlen':el'.cells.length=sz:=by
        by_cases hnsz:n=sz
        ·simp only [el',if_pos hnsz];omega
        ·simp only [el',if_neg hnsz,na,eV,ah,oe,kV];omega
       have hsize':∀ x∈els.set i el',x.cells.length=sz:=by
        intro x hx
        rcases List.mem_or_eq_of_mem_set hx with hx | rfl
        ·exact hsize x hx
        ·exact hlen'
       have hxl:xs.length=els.length * sz:=hown.1
       have hget2:=fun j=>d8 cur.toList d.cells.toList (i * sz+off) j (by simp [hs];omega)
       have key:=h.update (w':=w.setRow b' (lm (i * sz+off) cur.toList++d.cells.toList++List.drop (i * sz+off+d.cells.toList.length) cur.toList).toArray) (ψ':=ψ) (B':=.arr e sz fz g (els.set i el')) (pl':=pl) hS hpl ?_ ?_ ?_ ?_ ?_ ?_ rfl
       ·rw [hset] at key;exact key
       ·exact⟨rfl,rfl,rfl,by simp [uj],fun k hk=>setRow_other w _ k _ (by omega)⟩
       ·intro k hk _
        exact setRow_other w _ k _ (fun e=>hk (by subst e;exact hb))
       ·rw [hset];exact cN.refl _ _
       ·rw [hset]
        refine⟨⟨hgen,hpsz⟩,hsize',hpos,by simpa using hfz,⟨_,⟨?_,.inr ⟨b',cap,_,by rw [hsv];simp,hbg,setRow_heap w b' cur _ e (0,0) hg,by simpa using hnc,hcm, ?_,rfl⟩⟩,fun j x ex=>?_⟩,hps⟩
        ·simp;omega
        ·simp [hs];omega
        ·rw [rM hsize' hpos] at ex
         have hj:j<els.length * sz:=by
          cases hq:(els.set i el')[j / sz]? with
          | none=>rw [hq] at ex;simp at ex
          | some e' =>
           have:=(ab.1 hq).1
           rw [List.length_set] at this
           exact(Nat.div_lt_iff_lt_mul hpos).1 this
         have hxsj:∀ v:Value,xs[j]? = some v→cur.toList[j]? = some v:=by
          intro v hv
          have hj2:j<els.length * sz:=by rw [← hxl];exact(ab.1 hv).1
          rw [← htake,aV,if_pos hj2] at hv
          exact hv
         simp only [aV]
         rw [if_pos (by simpa using hj),hget2 j]
         have hmod:=Ch j sz
         have hmlt:=gj j hpos
         by_cases hji:j / sz=i
         ·rw [hji,List.getElem?_set_self hil] at ex
          simp only [Cg] at ex
          rw [hcells] at ex
          rw [hji] at hmod
          by_cases hin:off≤j % sz∧j % sz<off+n
          ·rw [if_pos hin] at ex
           rw [if_pos (by simp [hs];omega)]
           obtain⟨v',e1,e2⟩:=hvv _ x ex
           refine⟨gY h3 ex,v', ?_,e2,fun hlt=>?_⟩
           ·rw [show j - (i * sz+off)=j % sz - off by omega];simpa using e1
           ·have:fz * sz≤i * sz:=bT _ hfi
            omega
          ·rw [if_neg hin] at ex
           rw [if_neg (by simp [hs];omega)]
           have hfj:(dg els)[j]? = some x:=by rw [rM hsize hpos,hji,hel];exact ex
           obtain⟨hl,v',e1,e2,e3⟩:=hxs j x hfj
           exact⟨hl,v',hxsj v' e1,e2,e3⟩
         ·rw [bl (Ne.symm hji)] at ex
          have hfj:(dg els)[j]? = some x:=by rw [rM hsize hpos];exact ex
          obtain⟨hl,v',e1,e2,e3⟩:=hxs j x hfj
          refine⟨hl,v', ?_,e2,e3⟩
          rw [if_neg]
          ·exact hxsj v' e1
          ·simp only [c_,hs,h1,not_and,Nat.not_lt]
           intro hge
           rcases Nat.lt_or_gt_of_ne hji with hlt | hgt
           ·have:(j / sz+1) * sz≤i * sz:=bT _ hlt
            rw [fC] at this;omega
           ·have:(i+1) * sz≤j / sz * sz:=bT _ hgt
            rw [fC] at this;omega
       ·intro k hk;exact .inl hk
       ·intro k o v' ev
        by_cases hk:pl.sv.ownBlock=some k
        ·have ho:o<fz * sz:=sm fun hge=>by rw [hps k o hk hge] at ev;cases ev
         have hkb:k=b':=by rw [hb] at hk;cases hk;rfl
         subst hkb
         have hfl:=cO hsize
         have hfb:fz * sz≤els.length * sz:=bT _ hfz
         obtain⟨_,v2,e1,_,e3⟩:=hxs o _ (al (show o<(dg els).length by omega))
         rw [e3 ho k hk] at ev;cases ev
         refine .inr ⟨.inl hk, ?_⟩
         rw [cell_setRow_same w k o cur _ e (0,0) hg]
         simp only [cS]
         rw [hget2 o,if_neg]
         ·rw [← htake,aV,if_pos (by omega)] at e1
          exact e1
         ·have:fz * sz≤i * sz:=bT _ hfi
          omega
        ·exact .inl ⟨ev,hk⟩
    ·cases he
   ·cases he
  ·cases he
 ·cases he
end Go.Fen
namespace Go.Fen
open Go.RowKit Go.MapKept
variable {P:Program}{w0 w w':World}{ι:List Pl}{ψ:cX}{S:List ax}
theorem b7.psim_new (h:b7 w0 ι ψ S w){b:Nat} (hb:w.heap.size≤b):ψ.m b=none:=by
 cases e:ψ.m b with
 | none=>rfl
 | some es =>
  obtain⟨hc,_⟩:=h.psim b es.1 es.2 e
  have:=du hc
  omega
theorem b7.newBlk (h:b7 w0 ι ψ S w) (o:Obj) (B:ax) (hat:∀ pl:Pl,B.at pl=some pl.blk) (hB:kQ w0.heap.size (ι++[⟨w.heap.size,0,undef,0⟩]) ψ (w.alloc o) ⟨w.heap.size,0,undef,0⟩ B) :
  b7 w0 (ι++[⟨w.heap.size,0,undef,0⟩]) ψ (S++[B]) (w.alloc o):=by
 refine(h.alloc o).push _ _ hB fun k hk i C q hC hq hk2=>?_
 rw [hat] at hk
 simp at hk
 subst hk
 have:=((h.blk i C q hC hq).at_lt hk2).2
 omega
theorem b7.putBlk (h:b7 w0 ι ψ S w){m:Nat}{B B':ax}{o:Obj}{pl:Pl} (hi:S[m]? = some B) (hpl:ι[m]? = some pl) (hat:B.at pl=some pl.blk) (hat':B'.at pl=some pl.blk)
  (hc:∀ k,ψ.c pl.blk k=none) (hfz:∀ es,B≠.mp true es) (hB':kQ w0.heap.size ι ψ (w.putObj pl.blk o) pl B'):b7 w0 ι ψ (S.set m B') (w.putObj pl.blk o):=by
 have hB:=h.blk m _ pl hi hpl
 have h0:=(hB.at_lt hat).1
 have hset:ι.set m pl=ι:=eK hpl
 have hoth:∀ k,k≠pl.blk→(w.putObj pl.blk o).heap[k]? = w.heap[k]?:=fun k hk=>World.putObj_heap_other hk
 have key:=h.update (w':=w.putObj pl.blk o) (ψ':=ψ) (B':=B') (pl':=pl) hi hpl ⟨rfl,rfl,rfl,by simp,fun k hk=>hoth k (by omega)⟩ (fun k hk _=>hoth k (fun e=>hk (by rw [hat,e])))
  (by rw [hset];exact cN.refl _ _) (by rw [hset];exact hB') (fun k hk=>.inl (by rw [hat',← hat] at hk;exact hk)) (fun b ob v e=>.inl ⟨e,fun hk=>by
   rw [hat] at hk;cases hk;rw [hc ob] at e;cases e⟩) rfl (fun es he=>absurd he (hfz es))
 rw [hset] at key;exact key
theorem t6 (w:World) (a:Addr) (n:Nat) (ad:Addr):(w.freeze a n).cell? ad=w.cell? ad:=by
 unfold uk
 by_cases hn:n=0
 ·rw [if_pos hn]
 ·rw [if_neg hn]
  unfold jx
  rw [gR]
  by_cases hb:a.block=ad.block
  ·rw [if_pos hb]
   cases w.heap[ad.block]? with
   | none=>rfl
   | some o=>cases o<;>rfl
  ·rw [if_neg hb]
def ml (P:Program) (S:List ax) (t:TypeId) (hint:Option AV):Option (AV × List ax) :=
 match hint with
 | none=>some (.mown S.length,S++[.mp false []])
 | some (.int _ _)=>match P.underlying t with
  | some (.map _ _)=>some (.mown S.length,S++[.mp false []])
  | _=>none
 | _=>none
theorem oS (h:b7 w0 ι ψ S w){t:TypeId}{hint:Option AV}{ch:Option Value} (hh:pD ι ψ hint ch){r:AV}{S':List ax} (he:ml P S t hint=some (r,S')) :
  ∃ ι' w' cv,(l0 t ch).run P w=.ok cv w'∧cN ι ψ ι' ψ∧b7 w0 ι' ψ S' w'∧VR ι' ψ r cv:=by
 have fin:(l0 t ch).run P w=.ok (.map (some w.heap.size)) (w.alloc (.map #[] 0))→(r,S')=(.mown S.length,S++[.mp false []]) →
   ∃ ι' w' cv,(l0 t ch).run P w=.ok cv w'∧cN ι ψ ι' ψ∧b7 w0 ι' ψ S' w'∧VR ι' ψ r cv:=by
  intro hr e
  simp only [lA] at e
  obtain⟨rfl,rfl⟩:=e
  refine⟨ι++[⟨w.heap.size,0,undef,0⟩],_,_,hr,cN.push ι ψ _,h.newBlk (.map #[] 0) (.mp false []) (fun _=>rfl) ⟨h.n0,by simp,⟨#[],0,[],ic w _,⟨by simp,by simp⟩,.refl _,⟨rfl,by simp⟩,by simpa using h.psim_new (aP _)⟩,fun k=>h.psi_new (aP _) k⟩, ?_⟩
  have:=VR.mown (ι:=ι++[⟨w.heap.size,0,undef,0⟩]) (ψ:=ψ) S.length ⟨w.heap.size,0,undef,0⟩ (by rw [← h.len];simp)
  exact this
 unfold ml at he
 split at he
 ·cases ch with
  | some c=>exact hh.elim
  | none=>exact fin rfl (by simpa using he.symm)
 ·next j n =>
  cases ch with
  | none=>exact hh.elim
  | some c =>
   split at he
   ·next kt et hu =>
    have:=VR.int_inv hh
    subst this
    exact fin (by simp [l0,run_underlying hu,asInt,asIntOf,newObj,kg]) (by simpa using he.symm)
   ·cases he
 ·cases he
def h_ (k v:AV) (es:List (AV × AV)):List (AV × AV) :=
 if es.any (fun e=>jb k e.1) then es.map (fun e=>if jb k e.1 then (k,v) else e) else es++[(k,v)]
def em (P:Program) (S:List ax) (t:TypeId) (m k v:AV):Option (List ax) :=
 match P.underlying t,m with
 | some (.map kt _),.mown a=>match S[a]? with
  | some (.mp false es)=>if (dW P kt k&&es.all fun e=>dW P kt e.1)=true then some (S.set a (.mp false (h_ k v es))) else none
  | _=>none
 | _,_=>none
theorem jk (h:b7 w0 ι ψ S w){t:TypeId}{m k v:AV}{cm ck cv:Value}{S':List ax} (hm:VR ι ψ m cm) (hk:VR ι ψ k ck) (hv:VR ι ψ v cv) (he:em P S t m k v=some S') :
  ∃ w',(pI t cm ck cv).run P w=.ok () w'∧b7 w0 ι ψ S' w':=by
 unfold em at he
 split at he
 ·next kt et a hu =>
  split at he
  ·next es hS =>
   split at he
   ·next hc =>
    simp only [aj,aq] at hc
    simp only [a8] at he
    subst he
    cases hm with
    | mown _ pl hpl =>
     obtain⟨h0,hn,⟨me,clk,l,h1,h2,h3,h4,h5⟩,h6⟩:=h.blk a _ pl hS hpl
     have h5':ψ.m pl.blk=none:=by simpa using h5
     have hck:(gn false 10000 kt ck).run P w=.ok () w:=qn hc.1 hk false w
     rcases qr (P:=P) hk h3 hn h4 hc.1 hc.2 with⟨e1,e2⟩ | ⟨j,e,m,e1,e2,e3,e4,e5,e6⟩
     ·have hany:es.any (fun e=>jb k e.1)=false:=by
       rw [List.any_eq_false]
       exact i7.1 e1
      have hf:=e2 w
      refine⟨w.putObj pl.blk (.map (me.push { key:=ck,val:=cv,born:=clk }) (clk+1)), ?_, ?_⟩
      ·simp [pI,run_underlying hu,dC h1,hck,hf,run_setObj_map _ h1,World.putObj]
      ·rw [h_,if_neg (by simp [hany])]
       refine h.putBlk hS hpl rfl rfl h6 (by intro es' e;cases e) ⟨h0, ?_,⟨_,_,l++[(k,v)],dK (du h1), ?_,h3.append_right _, ?_,by simpa using h5'⟩,h6⟩
       ·rw [bg,gZ]
        refine⟨hn,by simp, ?_⟩
        intro x hx y hy
        simp at hy;subst hy
        obtain⟨e,hem,rfl⟩:=aH.1 hx
        intro hxk
        have:=i7.1 e1 e hem
        exact this ((gL hc.1 (hc.2 e hem)).2 hxk.symm)
       ·refine⟨fun m hm=>?_, ?_⟩
        ·simp at hm
         rcases hm with hm | rfl
         ·have:=h2.1 m (by simpa using hm);omega
         ·simp
        ·simp only [ya,bg,gZ]
         refine⟨h2.2,by simp, ?_⟩
         intro x hx y hy
         simp at hy;subst hy
         obtain⟨m,hm,rfl⟩:=aH.1 hx
         have:=h2.1 m hm
         omega
       ·refine⟨by simp [h4.1],fun i e m hi hm=>?_⟩
        simp only [ya] at hm
        by_cases hil:i<l.length
        ·rw [ap hil] at hi
         rw [ap (by rw [← h4.1];exact hil)] at hm
         exact h4.2 i e m hi hm
        ·rw [aw (by omega)] at hi
         rw [aw (by rw [← h4.1];omega),← h4.1] at hm
         cases hz:i - l.length with
         | zero=>rw [hz] at hi hm;simp at hi hm;subst hi;subst hm;exact⟨hk,hv⟩
         | succ n=>rw [hz] at hi;simp at hi
     ·have hmem:e∈es:=gw e1
      have hany:es.any (fun e=>jb k e.1)=true:=List.any_eq_true.2 ⟨e,hmem,List.find?_some (p:=fun e:AV × AV=>jb k e.1) e1⟩
      have hf:=e6 w
      have hjl:j<me.size:=by have:=(ab.1 e3).1;simpa using this
      have hmj:me[j]? = some m:=by simpa using e3
      have hmj':me[j]=m:=by simpa [hjl] using hmj
      refine⟨w.putObj pl.blk (.map (me.modify j fun e=>{ e with key:=ck,val:=cv }) clk), ?_, ?_⟩
      ·have hst:(mN ck ck).run P w=.ok ck w:=xk hc.1 hk w
       simp [pI,run_underlying hu,dC h1,hck,hf,run_setObj_map _ h1,World.putObj,hjl,hmj',e4,hst]
      ·rw [h_,if_pos hany]
       have hfst:∀ e∈es,(if jb k e.1 then (k,v) else e).1=e.1:=by
        intro e he
        split
        ·next hq=>exact((gL hc.1 (hc.2 e he)).1 hq)
        ·rfl
       refine h.putBlk hS hpl rfl rfl h6 (by intro es' e;cases e) ⟨h0, ?_,⟨_,_,l.map (fun e=>if jb k e.1 then (k,v) else e),dK (du h1), ?_,h3.map _, ?_,by simpa using h5'⟩,h6⟩
       ·rw [Ag,List.map_congr_left (g:=bZ) (by intro e he;exact hfst e he)]
        exact hn
       ·have hb:(me.modify j fun e=>{ e with key:=ck,val:=cv }).toList.map (·.born)=me.toList.map (·.born):=by
         apply List.ext_getElem?
         intro i
         simp only [aF,a7,gR]
         split
         ·cases me[i]?<;>rfl
         ·rfl
        refine⟨fun m' hm'=>?_,by rw [hb];exact h2.2⟩
        have:m'.born∈me.toList.map (·.born):=by rw [← hb];exact b_ hm'
        obtain⟨m2,k1,k2⟩:=aH.1 this
        rw [← k2];exact h2.1 m2 k1
       ·refine⟨by simp [h4.1],fun i e' m' hi hm'=>?_⟩
        simp only [aF,aJ] at hi
        obtain⟨e0,hi0,rfl⟩:=hi
        simp only [a7,gR] at hm'
        have hil:i<l.length:=(ab.1 hi0).1
        by_cases hij:j=i
        ·subst hij
         rw [e2] at hi0;cases hi0
         rw [if_pos rfl,hmj] at hm'
         simp at hm';subst hm'
         rw [if_pos ((gL hc.1 (hc.2 e hmem)).2 e5.symm)]
         exact⟨hk,hv⟩
        ·rw [if_neg hij] at hm'
         have hne:jb k e0.1=false:=by
          cases hq:jb k e0.1 with
          | false=>rfl
          | true =>
           have h7:=(gL hc.1 (hc.2 e0 (h3.mem_iff.1 (ar hi0)))).1 hq
           have hnl:(l.map bZ).Nodup:=(h3.map bZ).nodup_iff.2 hn
           exact absurd ((pG (i:=i) (j:=j) (by simpa using hil) hnl).1 (by simp only [aF,hi0,e2,cu];rw [← h7,e5])) (fun e=>hij e.symm)
         rw [hne]
         exact h4.2 i e0 m' hi0 (by simpa using hm')
   ·cases he
  ·cases he
 ·cases he
def rg (P:Program) (S:List ax) (t:TypeId) (x:AV):Option (AV × List ax) :=
 match P.underlying t,x with
 | some (.map _ _),.mnil=>some (.own S.length 0,S++[.mit none []])
 | some (.map _ _),.mval es=>some (.own S.length 0,S++[.mit none es])
 | some (.map _ _),.mown a=>match S[a]? with
  | some (.mp true es)=>some (.own S.length 0,S++[.mit none es])
  | _=>none
 | _,_=>none
theorem rf (h:b7 w0 ι ψ S w){t:TypeId}{x:AV}{c:Value} (hx:VR ι ψ x c){r:AV}{S':List ax} (he:rg P S t x=some (r,S')) :
  ∃ ι' w' cv,(jj t c).run P w=.ok cv w'∧cN ι ψ ι' ψ∧b7 w0 ι' ψ S' w'∧VR ι' ψ r cv:=by
 have fin:∀ (o:Obj) (rest:List (AV × AV)),(jj t c).run P w=.ok (.pointer (some ⟨w.heap.size,0,none⟩)) (w.alloc o)→(r,S')=(.own S.length 0,S++[.mit none rest]) →
   (o=.mapIter none 0 #[] 0∧rest=[]∨∃ (mb:Nat) (me:Array MapEntry) (ck:Nat) (l:List (AV × AV)),o=.mapIter (some mb) ck #[] ck∧ψ.m mb=some (me,ck)∧l.Perm rest∧nP ι ψ l me.toList) →
   ∃ ι' w' cv,(jj t c).run P w=.ok cv w'∧cN ι ψ ι' ψ∧b7 w0 ι' ψ S' w'∧VR ι' ψ r cv:=by
  intro o rest hr e ho
  simp only [lA] at e
  obtain⟨rfl,rfl⟩:=e
  refine⟨ι++[⟨w.heap.size,0,undef,0⟩],_,_,hr,cN.push ι ψ _,h.newBlk o (.mit none rest) (fun _=>rfl) ⟨h.n0, ?_,fun k=>h.psi_new (aP _) k,h.psim_new (aP _)⟩, ?_⟩
  ·rcases ho with⟨rfl,rfl⟩ | ⟨mb,me,ck,l,rfl,k1,k3,k4⟩
   ·exact .inl ⟨ic w _,rfl,rfl⟩
   ·refine .inr ⟨mb,ck,me,#[],l,ic w _,k1,k3, ?_,by intro e he;cases he⟩
    have:me.toList.filter (fun e=>!(#[]:Array Nat).contains e.born)=me.toList:=by
     rw [List.filter_eq_self];intro e _;simp
    rw [this]
    exact k4.mono (cN.push ι ψ _)
  ·have:=VR.own (ι:=ι++[⟨w.heap.size,0,undef,0⟩]) (ψ:=ψ) S.length 0 ⟨w.heap.size,0,undef,0⟩ (by rw [← h.len];simp)
   exact this
 unfold rg at he
 split at he
 ·next kt et hu =>
  cases hx
  exact fin (.mapIter none 0 #[] 0) [] (by simp [jj,run_underlying hu,newObj,kg]) (by simpa using he.symm) (.inl ⟨rfl,rfl⟩)
 ·next kt et es hu =>
  cases hx with
  | mval _ l b ck me hb hp hl hn h1 h2 =>
   obtain⟨hck,hok⟩:=h.psim b me ck hb
   refine fin (.mapIter (some b) ck #[] ck) es (by simp [jj,run_underlying hu,dC hck,newObj,kg]) (by simpa using he.symm) (.inr ⟨b,me,ck,l,rfl,hb,hp, ?_⟩)
   exact⟨by simpa using hl,fun i e m hi hm=>⟨h1 i e m hi (by simpa using hm),h2 i e m hi (by simpa using hm)⟩⟩
 ·next kt et a hu =>
  split at he
  ·next es hS =>
   cases hx with
   | mown _ pl hpl =>
    obtain⟨h0,hn,⟨me,ck,l,h1,h2,h3,h4,h5⟩,h6⟩:=h.blk a _ pl hS hpl
    refine fin (.mapIter (some pl.blk) ck #[] ck) es (by simp [jj,run_underlying hu,dC h1,newObj,kg]) (by simpa using he.symm) (.inr ⟨pl.blk,me,ck,l,rfl,by simpa using h5,h3,h4⟩)
  ·cases he
 ·cases he
def rx (els:List AV):Bool:=els.all fun x=>match x with
 | .int .u8 n=>decide (0≤n)&&decide (n<256)
 | _=>false
def jB (P:Program) (S:List ax) (pt:TypeId) (p n:AV):Option (AV × List ax) :=
 match p,n with
 | .oel a g 0 0,.int .i64 m=>match S[a]? with
  | some (.arr e 1 _ g' els)=>match fh els with
   | some s=>match P.underlying pt with
    | some (.pointer e')=>if g=g'∧m=els.length∧1≤els.length∧e'=e∧P.cellsOf e=1∧rx els=true then some (.str s,S.set a .dead) else none
    | _=>none
   | none=>none
  | _=>none
 | .nilp,.int .i64 m=>if m=0 then some (.str [],S) else none
 | _,_=>none
theorem mS (h:b7 w0 ι ψ S w){pt it ty:TypeId}{p n r:AV}{cp cn:Value}{S':List ax} (hp:VR ι ψ p cp) (hn:VR ι ψ n cn) (he:jB P S pt p n=some (r,S')) :
    ∃ w' cv,(Builtin.unsafeString_ #[pt,it] ty #[cp,cn]).run P w=.ok cv w'∧b7 w0 ι ψ S' w'∧VR ι ψ r cv:=by
  unfold jB at he
  split at he
  · next a g m =>
    obtain rfl:=hn.int_inv
    split at he
    · next e fz g' els hS =>
      split at he
      · next s hs =>
       split at he
       · next e' hpt =>
        split at he
        · next hc =>
          obtain⟨rfl,rfl,hpos,rfl,hce,hok8⟩:=hc
          simp only [a8,lA] at he
          obtain⟨rfl,rfl⟩:=he
          obtain⟨ns,rfl,rfl⟩:=ib _ _ hs
          cases hp with
          | oel _ _ _ _ ad pl hpl hgl hs' =>
            obtain⟨⟨hgen,hpsz⟩,hsz,_,hfz,⟨xs,hown,hxs⟩,hps⟩:=h.blk a _ pl hS hpl
            obtain⟨b,hb,rfl⟩:=hs' hgen.symm
            rcases hown.2 with⟨hnn,hn0⟩ | ⟨b',cap,cur,hv,hbb,hgg,hle,hcm,hcs,htk⟩
            · omega
            · rw [hv] at hb
              simp only [bR,a8] at hb
              subst hb
              have hlen:(ns.map (AV.int .u8)).length=ns.length:=by simp
              rw [hlen] at hpos hle
              have hcell:∀ (j:Nat) (x:Int),ns[j]? = some x→w.cell? ((⟨b',0,none⟩:Addr).add j)=some (.int .u8 x):=by
                intro j x hj
                have hf:(dg (ns.map (AV.int .u8)))[j]? = some (.int .u8 x):=by
                  have:=iz (els:=ns.map (AV.int .u8)) (sz:=1) hsz (i:=j) (j:=0) (e:=.int .u8 x) (x:=.int .u8 x) (by simp [hj]) rfl
                  simpa using this
                obtain⟨_,v,hv',hr,_⟩:=hxs j _ hf
                rw [hr.int_inv] at hv'
                exact hown.cells (g:=b') (by rw [hv];rfl) j _ hv'
              have h8:∀ n∈ns,((aD n.toNat).toNat:Int)=n:=by
                intro n hn'
                have h9:=aq.1 hok8 _ (aH.2 ⟨n,hn',rfl⟩)
                simp only [aj,decide_eq_true_eq] at h9
                have:(aD n.toNat).toNat=n.toNat:=by
                  rw [UInt8.toNat_ofNat'];omega
                rw [this];omega
              have hsh:w.shape? b'=some (e',cur.size):=by simp [ui,hgg]
              have hus:=Lib.run_unsafeString_row (P:=P) (w:=w) pt it ty e' hpt hce b' cur.size hsh (ns.map fun n=>aD n.toNat) (fun e=>by rw [List.map_eq_nil_iff] at e;rw [e] at hpos;simp at hpos) (by rw [hcs];simp;omega) (by simp only [maxLen] at hcm;simp;omega) (fun j x hj=>by
                rw [aF,aJ] at hj
                obtain⟨n,hn',rfl⟩:=hj
                rw [h8 n (ar hn')]
                exact hcell j n hn')
              rw [aY] at hus
              refine⟨w.freeze ⟨b',0,none⟩ ns.length,.string ⟨(ns.map fun n=>aD n.toNat).toArray⟩, ?_, ?_,.str' _⟩
              · rw [show (⟨b', 0 * pl.sz + 0, none⟩ : Addr) = ⟨b', 0, none⟩ by simp, hlen]
                exact hus
              · have hset : ι.set a pl = ι := eK hpl
                have hcell':∀ ad:Addr,(w.freeze ⟨b',0,none⟩ ns.length).cell? ad=w.cell? ad:=fun ad=>t6 w _ _ ad
                have hoth:∀ k,k≠b'→(w.freeze ⟨b',0,none⟩ ns.length).heap[k]? = w.heap[k]?:=by
                  intro k hk
                  unfold uk
                  split
                  · rfl
                  · simp [gR,Ne.symm hk]
                have key:=h.update (w':=w.freeze ⟨b',0,none⟩ ns.length) (ψ':=ψ) (B':=.dead) (pl':=pl) hS hpl ?_ ?_ ?_ trivial (by intro k hk;simp [ax.at] at hk) ?_ rfl
                · rw [hset] at key;exact key
                · refine⟨?_, ?_, ?_, ?_,fun k hk=>hoth k (by omega)⟩<;>(unfold uk;split<;>simp)
                · intro k hk _
                  exact hoth k (fun e=>hk (by simp [ax.at,hv,bR,e]))
                · rw [hset];exact cN.refl _ _
                · intro b o v e
                  by_cases hbk:b=b'
                  · subst hbk
                    exact .inr ⟨.inl (by simp [ax.at,hv,bR]),by rw [hcell'];exact h.psi _ _ _ e⟩
                  · exact .inl ⟨e,fun hk=>hbk (by simp [ax.at,hv,bR] at hk;exact hk.symm)⟩
        · cases he
       · cases he
      · cases he
    · cases he
  · next m =>
    obtain rfl:=hn.int_inv
    split at he
    · next hm =>
      subst hm
      simp only [a8,lA] at he
      obtain⟨rfl,rfl⟩:=he
      cases hp with
      | nilp=>exact⟨w,_,Lib.run_unsafeString_none (P:=P) (w:=w) pt it ty none,h,.str _ _ rfl⟩
    · cases he
  · cases he
end Go.Fen
namespace Go.Fen
open Go.RowKit
variable {P:Program}{w0 w w':World}{ι:List Pl}{ψ:cX}{S:List ax}
def jH (P:Program) (S:List ax) (t:TypeId) (l c:AV):Option (AV × List ax) :=
 match P.underlying t,l,c with
 | some (.slice e),.int .i64 n,.int .i64 m=>match nA P e,kj P e with
  | some (sz,bytes,zs),some z=>if cC sz [z]=true∧0<sz∧0<bytes∧zs=sz∧0≤n∧n≤m∧m * (bytes:Nat)≤140737488355328 then
    some (.sown S.length 0 n.toNat,S++[.arr e sz 0 0 (bp n.toNat z)]) else none
  | _,_=>none
 | _,_,_=>none
theorem tF {z:AV}{sz:Nat} (hz:z.cells.length=sz) (hp:0<sz):∀ (k j:Nat),j<k * sz→(dg (bp k z))[j]? = z.cells[j % sz]?
 | 0,j,h=>by simp at h
 | k+1,j,h=>by
  rw [gk,ik]
  by_cases hj:j<sz
  ·rw [ap (by omega),iG hj]
  ·have e:j % sz=(j - sz) % sz:=Ae (by omega)
   rw [fC] at h
   rw [aw (by omega),hz,tF hz hp k (j - sz) (by omega),e]
theorem m3 (h:b7 w0 ι ψ S w){t:TypeId}{l c:AV}{lv cv:Value}{r:AV}{S':List ax} (hl:VR ι ψ l lv) (hc:VR ι ψ c cv) (he:jH P S t l c=some (r,S')) :
  ∃ ι' ψ' w' v,(ki t lv cv).run P w=.ok v w'∧cN ι ψ ι' ψ'∧b7 w0 ι' ψ' S' w'∧VR ι' ψ' r v:=by
 unfold jH at he
 split at he
 ·next e n m hu =>
  split at he
  ·next sz bytes zs z hi hz =>
   split at he
   ·next hcnd =>
    obtain⟨h1,h2,h3,h4,h5,h6,h7⟩:=hcnd
    simp at he
    obtain⟨rfl,rfl⟩:=he
    obtain⟨i,zv,i1,i2,i3,i4,i5⟩:=pc hi
    obtain⟨zv',hzr,hzv⟩:=iO (P:=P) (w:=w) (ι:=ι) (ψ:=ψ) hz
    have hnj:z≠.junk:=by
     rintro rfl
     simp [cC,AV.cells,AV.leaf] at h1
    have hzl:z.cells.length=sz:=dZ h1 z (by simp)
    obtain⟨c1,c2⟩:=hzv.cells hnj
    cases hl with
    | int _ _ =>
    cases hc with
    | int _ _ =>
    obtain⟨a,rfl⟩:∃ a:Nat,n=a:=⟨n.toNat,by omega⟩
    obtain⟨b,rfl⟩:∃ b:Nat,m=b:=⟨m.toNat,by omega⟩
    have hmul:((b * bytes:Nat):Int)=(b:Int) * (bytes:Int):=Int.natCast_mul ..
    have h7':b * bytes≤140737488355328:=by rw [← hmul] at h7;omega
    have hb48:b≤140737488355328:=dB (ke b h3) h7'
    have w1:af.wrap (a:Int)=a:=au _ (by omega)
    have w2:af.wrap (b:Int)=b:=au _ (by omega)
    have nz:¬ (((i.bytes:Int) * (b:Int))>2 ^ 48):=by rw [i4,Int.mul_comm,← hmul];omega
    have hroom:¬ (b * i.bytes>roomBytes):=by rw [i4];simp only [roomBytes];omega
    let cur:Array Value:=(Array.range (b * sz)).map ((if b * sz=0 then #[] else zv'.cells)[· % (if b * sz=0 then #[] else zv'.cells).size]!)
    have hrun:(ki t (.int .i64 (a:Int)) (.int .i64 (b:Int))).run P w=.ok (.slice (some ⟨w.heap.size,0,none⟩) a b) (w.alloc (.cells cur e)):=by
     have hsz:dG P e=some sz:=by simp [dG,i1,i3]
     have n1:¬ ((a:Int)<0):=by omega
     have n2:¬ ((b:Int)<(a:Int)):=by omega
     have n3:¬ ((b:Int)<0):=by omega
     have n4:¬ (281474976710656<(i.bytes:Int) * (b:Int)):=by omega
     have n5:(((b:Int)<0∨281474976710656<(i.bytes:Int) * (b:Int))∨(a:Int)<0)∨(b:Int)<(a:Int)↔False:=by
      constructor
      ·rintro(((h | h) | h) | h)<;>omega
      ·exact False.elim
     by_cases h0:b * sz=0
     ·simp [ki,run_underlying hu,asInt,asIntOf,typeInfo,i1,w1,w2,n5,askRoom,hroom,bP hsz,newRow,run_newObj,h0,cur]
      intro hh;exact absurd hh (by rintro(((h | h) | h) | h)<;>omega)
     ·simp [ki,run_underlying hu,asInt,asIntOf,typeInfo,i1,w1,w2,n5,askRoom,hroom,bP hsz,hzr,newRow,run_newObj,h0,cur]
      intro hh;exact absurd hh (by rintro(((h | h) | h) | h)<;>omega)
    have hcs:cur.size=b * sz:=by simp [cur]
    have key:=h.newArr e sz a b (bp a z) cur (by simp) (by simp [cC] at h1 ⊢;exact .inr h1) h2 (by omega) (g8 h3 h7') hcs ?_
    ·refine⟨_,ψ,_,_,hrun,cN.push ι ψ _,by simpa using key, ?_⟩
     refine .sown _ _ _ _ _ ⟨0,0,.slice (some ⟨w.heap.size,0,none⟩) a b,sz⟩ ?_ (aP _) (fun _=>rfl)
     rw [← h.len];simp
    ·intro j x ex
     have hj:j<a * sz:=by
      have:=(ab.1 ex).1
      rw [cO (sz:=sz) (by intro y hy;rw [(List.mem_replicate.1 hy).2];exact hzl)] at this;simpa using this
     rw [tF hzl h2 a j hj] at ex
     have hjb:j<b * sz:=jS hj (bT _ (by omega))
     obtain⟨v,v1,v2⟩:=c2 _ _ ex
     refine⟨v, ?_,v2⟩
     have hne:¬ b * sz=0:=by omega
     have hsz':zv'.cells.size=sz:=by rw [c1];exact hzl
     simp only [cur,if_neg hne,hsz']
     rw [je,Array.getElem?_range,if_pos hjb]
     simp only [cu]
     rw [Array.getElem!_eq_getD,ay,v1]
     rfl
   ·cases he
  ·cases he
 ·cases he
end Go.Fen
namespace Go.Fen
open Go.RowKit
variable {P:Program}{w0 w w':World}{ι:List Pl}{ψ:cX}{S:List ax}
theorem oP {sz:Nat}{els:List AV} (h:cC sz els=true){e:AV} (he:e∈els):e.isJunk=false:=by
 have:=aq.1 h e he
 simp at this
 cases e<;>first | rfl | (simp [AV.cells,AV.leaf] at this)
theorem xw {sz:Nat}:∀ (els:List AV) (parts:List (Nat × AV)) (k:Nat) (cells:List AV),parts.map lz=els→parts.map bZ=un k els.length→cC sz els=true→(k+els.length) * sz≤cells.length →
  ∃ r,kH (fun i=>some (i * sz,sz)) cells parts=some r∧r.length=cells.length∧∀ j,r[j]? = if k * sz≤j∧j<(k+els.length) * sz then (dg els)[j - k * sz]? else cells[j]?:=by
 intro els
 induction els with
 | nil =>
  intro parts k cells h1 _ _ _
  have:parts=[]:=by simpa using h1
  subst this
  refine⟨cells,rfl,rfl,fun j=>?_⟩
  rw [if_neg]
  simp only [aU,kf];omega
 | cons e els ih =>
  intro parts k cells h1 h2 h3 h4
  cases parts with
  | nil=>simp at h1
  | cons p parts =>
   obtain⟨i,v⟩:=p
   simp only [aA,iI] at h1
   obtain⟨rfl,h1⟩:=h1
   simp only [aA,aI,List.range'_succ,iI] at h2
   obtain⟨rfl,h2⟩:=h2
   have hv:v.cells.length=sz:=dZ h3 v (by simp)
   have hj:=oP h3 (e:=v) (by simp)
   have h3':cC sz els=true:=by unfold cC at h3 ⊢;simp only [lg,aj] at h3;exact h3.2
   simp only [aI] at h4
   have e1:(i+(els.length+1)) * sz=i * sz+sz+els.length * sz:=by rw [eE,eE,Nat.one_mul];omega
   have e2:(i+1+els.length) * sz=i * sz+sz+els.length * sz:=by rw [eE,eE,Nat.one_mul]
   have e3:(i+1) * sz=i * sz+sz:=fC _ _
   have hfl:=cO (dZ h3')
   obtain⟨r,r1,r2,r3⟩:=ih parts (i+1) (eV cells (i * sz) v.cells) h1 h2 h3' (by simp [eV];omega)
   refine⟨r, ?_,by rw [r2];simp [eV];omega,fun j=>?_⟩
   ·simp only [kH]
    rw [if_pos ⟨hv,by omega,hj⟩]
    exact r1
   ·rw [r3 j,ik]
    simp only [aI,e2,e1,e3]
    by_cases hin:i * sz+sz≤j∧j<i * sz+sz+els.length * sz
    ·rw [if_pos hin,if_pos (by omega),aw (by omega),hv]
     congr 1;omega
    ·rw [if_neg hin,eV,d8 cells v.cells (i * sz) j (by omega),hv]
     by_cases hin2:i * sz≤j∧j<i * sz+sz
     ·rw [if_pos hin2,if_pos (by omega),ap (by omega)]
     ·rw [if_neg hin2,if_neg (by omega)]
def iZ (P:Program) (S:List ax) (t:TypeId) (len:Nat) (parts:List (Nat × AV)):Option (AV × List ax) :=
 match P.underlying t with
 | some (.slice e)=>match dG P e,zeroA P e with
  | some sz,some _=>if parts.map bZ=bC len∧cC sz (parts.map lz)=true∧0<sz∧len * sz≤16777216 then
    some (.sown S.length 0 len,S++[.arr e sz 0 0 (parts.map lz)]) else none
  | _,_=>none
 | _=>none
theorem mE (h:b7 w0 ι ψ S w){t:TypeId}{len:Nat}{ps:List (Nat × AV)}{vs:Array (Nat × Value)}{r:AV}{S':List ax} (hl:ps.length=vs.size)
  (hv:∀ (j:Nat) (p:Nat × AV) (q:Nat × Value),ps[j]? = some p→vs[j]? = some q→p.1=q.1∧VR ι ψ p.2 q.2) (he:iZ P S t len ps=some (r,S')) :
  ∃ ι' ψ' w' cv,(jU t len vs).run P w=.ok cv w'∧cN ι ψ ι' ψ'∧b7 w0 ι' ψ' S' w'∧VR ι' ψ' r cv:=by
 unfold iZ at he
 split at he
 ·next e hu =>
  split at he
  ·next sz z hsz hz =>
   split at he
   ·next hc =>
    obtain⟨h1,h2,h3,h4⟩:=hc
    simp at he
    obtain⟨rfl,rfl⟩:=he
    obtain⟨zv,hzr,_⟩:=iP (P:=P) (w:=w) (ι:=ι) (ψ:=ψ) hz
    have hlen:(ps.map lz).length=len:=by
     have:=congrArg dM h1
     simp at this ⊢;exact this
    obtain⟨rA,f1,f2,f3⟩:=xw (sz:=sz) (ps.map lz) ps 0 (bp (len * sz) .junk) rfl (by rw [h1,hlen,List.range_eq_range']) h2 (by simp [hlen])
    have hinit:∀ zc:Array Value,CR ι ψ (bp (len * sz) .junk) ((Array.range (len * sz)).map (zc[· % zc.size]!)):=by
     intro zc
     refine⟨by simp,fun j x ex=>?_⟩
     have hj:=(ab.1 ex)
     obtain⟨hj1,hj2⟩:=hj
     simp at hj2 hj1
     subst hj2
     exact⟨zc[j % zc.size]!,by simp [hj1],.junk _⟩
    obtain⟨rc,g1,g2⟩:=lO ps vs.toList _ _ rA (hinit (if len * sz=0 then #[] else zv.cells)) (by simpa using hl) (fun j p q hp hq=>hv j p q hp (by simpa using hq)) f1
    have hrun:(jU t len vs).run P w=.ok (.slice (some ⟨w.heap.size,0,none⟩) len len) (w.alloc (.cells rc e)):=by
     have hnb:¬ (len * sz>2 ^ 24):=by omega
     by_cases h0:len * sz=0
     ·rw [if_pos h0] at g1
      simp only [jU,bu,run_underlying hu,bB,bP hsz,if_neg hnb,if_pos h0,eD,g1,newRow,run_newObj]
      rfl
     ·rw [if_neg h0] at g1
      simp only [jU,bu,run_underlying hu,bB,bP hsz,if_neg hnb,if_neg h0,hzr,eD,g1,newRow,run_newObj]
      rfl
    have hrs:rc.size=len * sz:=by rw [← g2.1,f2];simp
    have key:=h.newArr e sz len len (ps.map lz) rc hlen.symm h2 h3 (aP _) ?_ hrs ?_
    ·refine⟨_,ψ,_,_,hrun,cN.push ι ψ _,key, ?_⟩
     refine .sown _ _ _ _ _ ⟨0,0,.slice (some ⟨w.heap.size,0,none⟩) len len,sz⟩ ?_ (aP _) (fun _=>rfl)
     rw [← h.len];simp
    ·have:=dB (ke len h3) h4
     simp only [maxLen];omega
    ·intro j x ex
     have hj:j<len * sz:=by
      have:=(ab.1 ex).1
      rw [cO (dZ h2),hlen] at this;exact this
     refine g2.2 j x ?_
     rw [f3 j,if_pos ⟨by omega,by rw [hlen];simpa using hj⟩]
     simpa using ex
   ·cases he
  ·cases he
 ·cases he
def mu (P:Program) (t:TypeId):Bool :=
 match P.underlying t with
 | some (.struct fs)=>fs.toList.map (·.name)==["addr","buf"]
 | _=>false
def dc (P:Program) (S:List ax) (ρ:Operand→AV) (op:Op):Option (AV × List ax) :=
 match op with
 | .alloc t=>match zeroA P t with
  | some z=>if gN z=true then some (.own S.length 0,S++[.cells z (if mu P t then some t else none)]) else none
  | none=>none
 | .box _ x=>if (ρ x).isJunk=false∧gN (ρ x).cells=true then some (.own S.length 0,S++[.cells (ρ x).cells]) else none
 | .buildSlice t len parts=>iZ P S t len (parts.toList.map fun p=>(p.1,ρ p.2))
 | .store t a v=>match qU P S t (ρ a) (ρ v) with
  | some S'=>some (.tup [],S')
  | none=>none
 | .makeMap t r=>ml P S t (r.map ρ)
 | .makeSlice t l c=>jH P S t (ρ l) (ρ c)
 | .mapUpdate t m k v=>match em P S t (ρ m) (ρ k) (ρ v) with
  | some S'=>some (.tup [],S')
  | none=>none
 | .insert t m k v=>match em P S t (ρ m) (ρ k) (ρ v) with
  | some S'=>some (.tup [],S')
  | none=>none
 | .range t x=>rg P S t (ρ x)
 | .call c=>match c.callee,c.args.toList,c.argTypes.toList with
  | .builtin .append,[s,x],[t,tx]=>oa P S t tx (ρ s) (ρ x)
  | .builtin .unsafeString,[p,n],[pt,_]=>jB P S pt (ρ p) (ρ n)
  | _,_,_=>(ez P S ρ (.call c)).map (fun v=>(v,S))
 | op=>(ez P S ρ op).map (fun v=>(v,S))
theorem kq (h:b7 w0 ι ψ S w){ρ:Operand→AV}{σ:Operand→Value} (hρ:∀ x,VR ι ψ (ρ x) (σ x)){o:Oper}{r:AV}{S':List ax} (he:dc P S ρ o.op=some (r,S')) :
  ∃ ι' ψ' w' nx cv,(execOp σ o).run P w=.ok nx w'∧(nx=.value cv∨(nx=.skip∧cv=undef))∧cN ι ψ ι' ψ'∧b7 w0 ι' ψ' S' w'∧VR ι' ψ' r cv:=by
 have pure:∀ (o:Oper),((ez P S ρ o.op).map fun v=>(v,S))=some (r,S') →
   ∃ ι' ψ' w' nx cv,(execOp σ o).run P w=.ok nx w'∧(nx=.value cv∨(nx=.skip∧cv=undef))∧cN ι ψ ι' ψ'∧b7 w0 ι' ψ' S' w'∧VR ι' ψ' r cv:=by
  intro o he
  cases hp:ez P S ρ o.op with
  | none=>simp [hp] at he
  | some v =>
   simp [hp] at he
   obtain⟨rfl,rfl⟩:=he
   obtain⟨cv,h1,h2⟩:=sX (P:=P) h hρ hp
   exact⟨ι,ψ,w,_,cv,h1,.inl rfl,cN.refl _ _,h,h2⟩
 obtain⟨dst,op,ty,pos,after,guard⟩:=o
 simp only at he
 unfold dc at he
 split at he
 ·next t =>
  split at he
  ·next z hz =>
   split at he
   ·next hl =>
    simp at he
    obtain⟨rfl,rfl⟩:=he
    obtain⟨zv,hzr,hzc⟩:=iP (P:=P) (w:=w) (ι:=ι) (ψ:=ψ) hz
    obtain⟨k1,k2⟩:=CR.newCells h hzc hl t (if mu P t then some t else none) (by intro u e;split at e<;>cases e;rfl)
    exact⟨_,ψ,_,_,_,by simp [execOp,Instr.alloc,hzr,newVar,newRow],.inl rfl,cN.push ι ψ _,k1,k2⟩
   ·cases he
  ·cases he
 ·next t x =>
  split at he
  ·next hc =>
   simp at he
   obtain⟨rfl,rfl⟩:=he
   obtain⟨hs,hvv⟩:=(hρ x).cells (by intro e;rw [e] at hc;simp [AV.isJunk] at hc)
   obtain⟨k1,k2⟩:=CR.newCells h ⟨hs.symm,hvv⟩ hc.2 t
   exact⟨_,ψ,_,_,_,by simp [execOp,Instr.box,newVar,newRow],.inl rfl,cN.push ι ψ _,k1,k2⟩
  ·cases he
 ·next t len parts =>
  obtain⟨ι',ψ',w',cv,h1,h2,h3,h4⟩:=mE (P:=P) h (vs:=parts.map fun p=>(p.1,σ p.2)) (by simp) (fun j p q hp hq=>by
   simp only [aF,a7,je,aJ] at hp hq
   obtain⟨y,hy,rfl⟩:=hp
   obtain⟨z,hz,rfl⟩:=hq
   rw [hy] at hz;cases hz
   exact⟨rfl,hρ _⟩) he
  exact⟨ι',ψ',w',_,cv,by simp [execOp,h1],.inl rfl,h2,h3,h4⟩
 ·next t a v =>
  split at he
  ·next S2 hst =>
   simp at he
   obtain⟨rfl,rfl⟩:=he
   obtain⟨w',h1,h2⟩:=qT (P:=P) h (hρ a) (hρ v) hst
   exact⟨ι,ψ,w',_,undef,by simp [execOp,h1],.inr ⟨rfl,rfl⟩,cN.refl _ _,h2,.tup _ _ rfl (by simp)⟩
  ·cases he
 ·next t rr =>
  obtain⟨ι',w',cv,h1,h2,h3,h4⟩:=oS (P:=P) h (mJ (σ:=σ) hρ rr) he
  exact⟨ι',ψ,w',_,cv,by simp [execOp,h1],.inl rfl,h2,h3,h4⟩
 ·next t l c =>
  obtain⟨ι',ψ',w',cv,h1,h2,h3,h4⟩:=m3 (P:=P) h (hρ l) (hρ c) he
  exact⟨ι',ψ',w',_,cv,by simp [execOp,h1],.inl rfl,h2,h3,h4⟩
 ·next t m k v =>
  split at he
  ·next S2 hst =>
   simp at he
   obtain⟨rfl,rfl⟩:=he
   obtain⟨w',h1,h2⟩:=jk (P:=P) h (hρ m) (hρ k) (hρ v) hst
   exact⟨ι,ψ,w',_,undef,by simp [execOp,h1],.inr ⟨rfl,rfl⟩,cN.refl _ _,h2,.tup _ _ rfl (by simp)⟩
  ·cases he
 ·next t m k v =>
  split at he
  ·next S2 hst =>
   simp at he
   obtain⟨rfl,rfl⟩:=he
   obtain⟨w',h1,h2⟩:=jk (P:=P) h (hρ m) (hρ k) (hρ v) hst
   exact⟨ι,ψ,w',_,undef,by simp [execOp,h1],.inr ⟨rfl,rfl⟩,cN.refl _ _,h2,.tup _ _ rfl (by simp)⟩
  ·cases he
 ·next t x =>
  obtain⟨ι',w',cv,h1,h2,h3,h4⟩:=rf (P:=P) h (hρ x) he
  exact⟨ι',ψ,w',_,cv,by simp [execOp,h1],.inl rfl,h2,h3,h4⟩
 ·next c =>
  obtain⟨callee,args,ts⟩:=c
  simp only at he
  split at he
  ·next s x t tx h1 h2 =>
   obtain rfl:args=#[s,x]:=by rw [← cg (xs:=args),h1]
   obtain rfl:ts=#[t,tx]:=by rw [← cg (xs:=ts),h2]
   obtain⟨ι',ψ',w',cv,k1,k2,k3,k4⟩:=pZ (P:=P) (ty:=ty) h (hρ s) (hρ x) he
   exact⟨ι',ψ',w',_,cv,by simp [execOp,resolve,invoke,builtin,k1],.inl rfl,k2,k3,k4⟩
  ·next p n pt it h1 h2 =>
   obtain rfl:args=#[p,n]:=by rw [← cg (xs:=args),h1]
   obtain rfl:ts=#[pt,it]:=by rw [← cg (xs:=ts),h2]
   obtain⟨w',cv,k1,k2,k3⟩:=mS (P:=P) (it:=it) (ty:=ty) h (hρ p) (hρ n) he
   exact⟨ι,ψ,w',_,cv,by simp [execOp,resolve,invoke,builtin,k1],.inl rfl,cN.refl _ _,k2,k3⟩
  ·exact pure _ he
 ·exact pure _ he
end Go.Fen
namespace Go.Fen
open Go.RowKit
variable {P:Program}{w0 w w':World}{ι:List Pl}{ψ:cX}{S:List ax}
mutual
def AV.noref:AV→Bool
 | .own .. | .oel .. | .sown .. | .mown .. | .yld _=>false
 | .pro cs=>i_ cs
 | .sval _ els=>i_ els
 | .mval es=>rC es
 | .fn _ a c=>i_ a&&i_ c
 | .ifc _ v=>v.noref
 | .agg cs=>i_ cs
 | .tup cs=>i_ cs
 | .dfr cs=>i_ cs
 | _=>true
def i_:List AV→Bool
 | []=>true
 | x::r=>x.noref&&i_ r
def rC:List (AV × AV)→Bool
 | []=>true
 | (a,b)::r=>a.noref&&b.noref&&rC r
end
mutual
def AV.lt (n:Nat):AV→Bool
 | .own a _=>decide (a<n)
 | .oel a ..=>decide (a<n)
 | .sown a ..=>decide (a<n)
 | .mown a=>decide (a<n)
 | .yld a=>decide (a<n)
 | .pro cs=>ltL n cs
 | .sval _ els=>ltL n els
 | .mval es=>lh n es
 | .fn _ a c=>ltL n a&&ltL n c
 | .ifc _ v=>v.lt n
 | .agg cs=>ltL n cs
 | .tup cs=>ltL n cs
 | .dfr cs=>ltL n cs
 | _=>true
def ltL (n:Nat):List AV→Bool
 | []=>true
 | x::r=>x.lt n&&ltL n r
def lh (n:Nat):List (AV × AV)→Bool
 | []=>true
 | (a,b)::r=>a.lt n&&b.lt n&&lh n r
end
theorem cw {n:Nat}{l:List AV}:ltL n l=true↔∀ x∈l,x.lt n=true:=by
 induction l with
 | nil=>simp [ltL]
 | cons x l ih=>simp [ltL,ih]
theorem dz {n:Nat}{l:List (AV × AV)}:lh n l=true↔∀ x∈l,x.1.lt n=true∧x.2.lt n=true:=by
 induction l with
 | nil=>simp [lh]
 | cons x l ih=>obtain⟨a,b⟩:=x;simp [lh,ih]
theorem kC {x y:AV}{n j:Nat} (h:x.lt n=true) (hx:x.cells[j]? = some y):y.lt n=true:=by
 have hm:=ar hx
 cases x<;>first
  | (simp only [AV.cells,aZ] at hm;subst hm;exact h)
  | (simp only [AV.cells] at hm;simp only [AV.lt] at h;exact cw.1 h y hm)
theorem VR.lt_len {x:AV}{v:Value} (h:VR ι ψ x v):x.lt ι.length=true:=by
 have pos:∀ {a:Nat}{pl:Pl},ι[a]? = some pl→decide (a<ι.length)=true:=fun h=>by simpa using (ab.1 h).1
 induction h with
 | own a off pl h=>exact pos h
 | oel a g i off ad pl h hg hs=>exact pos h
 | sown a g n ad cap pl h hg hs=>exact pos h
 | mown a pl h=>exact pos h
 | yld a pl h=>exact pos h
 | pro cs b o cv h1 h2 ih=>exact cw.2 fun x hx=>by obtain⟨j,hj⟩:=aQ hx;exact ih j x hj
 | sval sz full els b o cap cv hsz hcap hf h1 h2 ih =>
  refine cw.2 fun x hx=>?_
  obtain⟨i,hi⟩:=aQ hx
  cases x with
  | agg cs=>exact cw.2 fun y hy=>by obtain⟨j,hj⟩:=aQ hy;exact ih i _ j y hi hj
  | _=>exact ih i _ 0 _ hi rfl
 | mval es l b ck me hb hp hl hn h1 h2 ih1 ih2 =>
  refine dz.2 fun x hx=>?_
  obtain⟨i,hi⟩:=aQ (hp.mem_iff.2 hx)
  have hlt:i<me.size:=by rw [← hl];exact(ab.1 hi).1
  exact⟨ih1 i x me[i] hi (by simp [hlt]),ih2 i x me[i] hi (by simp [hlt])⟩
 | fn f first cap vf vc hl1 hl2 h1 h2 ih1 ih2 =>
  simp only [AV.lt,aj]
  refine⟨cw.2 fun x hx=>?_,cw.2 fun x hx=>?_⟩
  ·obtain⟨j,hj⟩:=aQ hx
   have hlt:j<vf.size:=by rw [← hl1];exact(ab.1 hj).1
   exact ih1 j x vf[j] hj (by simp [hlt])
  ·obtain⟨j,hj⟩:=aQ hx
   have hlt:j<vc.size:=by rw [← hl2];exact(ab.1 hj).1
   exact ih2 j x vc[j] hj (by simp [hlt])
 | ifc t x v h ih=>exact ih
 | agg cs vs hl h ih =>
  refine cw.2 fun x hx=>?_
  obtain⟨j,hj⟩:=aQ hx
  have hlt:j<vs.size:=by rw [← hl];exact(ab.1 hj).1
  exact ih j x vs[j] hj (by simp [hlt])
 | tup cs vs hl h ih =>
  refine cw.2 fun x hx=>?_
  obtain⟨j,hj⟩:=aQ hx
  have hlt:j<vs.size:=by rw [← hl];exact(ab.1 hj).1
  exact ih j x vs[j] hj (by simp [hlt])
 | dfr cs vs hl h ih =>
  refine cw.2 fun x hx=>?_
  obtain⟨j,hj⟩:=aQ hx
  have hlt:j<vs.length:=by rw [← hl];exact(ab.1 hj).1
  exact ih j x vs[j] hj (by simp [hlt])
 | _=>rfl
theorem VR.take {n:Nat}{x:AV}{v:Value} (h:VR ι ψ x v):x.lt n=true→VR (ι.take n) ψ x v:=by
 have pos:∀ {a:Nat}{pl:Pl},decide (a<n)=true→ι[a]? = some pl→(ι.take n)[a]? = some pl:=fun h1 h2=>by
  rw [aV,if_pos (by simpa using h1)];exact h2
 have mem:∀ {l:List AV}{j:Nat}{x:AV},ltL n l=true→l[j]? = some x→x.lt n=true:=fun h1 h2=>cw.1 h1 _ (ar h2)
 induction h with
 | int k m=>intro _;exact .int k m
 | bool b=>intro _;exact .bool b
 | str s b h=>intro _;exact .str s b h
 | nilp=>intro _;exact .nilp
 | own a off pl h=>intro hl;exact .own a off pl (pos hl h)
 | oel a g i off ad pl h hg hs=>intro hl;exact .oel a g i off ad pl (pos hl h) hg hs
 | pro cs b o cv h1 h2 ih=>intro hl;exact .pro cs b o cv h1 fun j x e=>ih j x e (mem hl e)
 | snil=>intro _;exact .snil
 | svnil full=>intro _;exact .svnil full
 | sval sz full els b o cap cv hsz hcap hf h1 h2 ih=>intro hl;exact .sval sz full els b o cap cv hsz hcap hf h1 fun i e j x he hj=>ih i e j x he hj (kC (mem hl he) hj)
 | sown a g m ad cap pl h hg hs=>intro hl;exact .sown a g m ad cap pl (pos hl h) hg hs
 | mnil=>intro _;exact .mnil
 | mown a pl h=>intro hl;exact .mown a pl (pos hl h)
 | yld a pl h=>intro hl;exact .yld a pl (pos hl h)
 | mval es l b ck me hb hp hl hn h1 h2 ih1 ih2 =>
  intro hlt
  exact .mval es l b ck me hb hp hl hn (fun i e m he hm=>ih1 i e m he hm (dz.1 hlt _ (hp.mem_iff.1 (ar he))).1) (fun i e m he hm=>ih2 i e m he hm (dz.1 hlt _ (hp.mem_iff.1 (ar he))).2)
 | fn f first cap vf vc hl1 hl2 h1 h2 ih1 ih2 =>
  intro hlt
  simp only [AV.lt,aj] at hlt
  exact .fn f first cap vf vc hl1 hl2 (fun j x v hx hv=>ih1 j x v hx hv (mem hlt.1 hx)) (fun j x v hx hv=>ih2 j x v hx hv (mem hlt.2 hx))
 | fnil=>intro _;exact .fnil
 | ifc t x v h ih=>intro hl;exact .ifc t x v (ih hl)
 | inil=>intro _;exact .inil
 | agg cs vs hl h ih=>intro hlt;exact .agg cs vs hl fun j x v hx hv=>ih j x v hx hv (mem hlt hx)
 | tup cs vs hl h ih=>intro hlt;exact .tup cs vs hl fun j x v hx hv=>ih j x v hx hv (mem hlt hx)
 | dfr cs vs hl h ih=>intro hlt;exact .dfr cs vs hl fun j x v hx hv=>ih j x v hx hv (mem hlt hx)
 | val v h=>intro _;exact .val v h
 | junk v=>intro _;exact .junk v
mutual
theorem AV.lt_of_noref (n:Nat):∀ x:AV,x.noref=true→x.lt n=true
 | .own ..,h=>by simp [AV.noref] at h
 | .oel ..,h=>by simp [AV.noref] at h
 | .sown ..,h=>by simp [AV.noref] at h
 | .mown ..,h=>by simp [AV.noref] at h
 | .yld _,h=>by simp [AV.noref] at h
 | .pro cs,h=>ea n cs h
 | .sval _ els,h=>ea n els h
 | .mval es,h=>mm n es h
 | .fn _ a c,h=>by
  simp only [AV.noref,aj] at h
  simp only [AV.lt,aj]
  exact⟨ea n a h.1,ea n c h.2⟩
 | .ifc _ v,h=>AV.lt_of_noref n v h
 | .agg cs,h=>ea n cs h
 | .tup cs,h=>ea n cs h
 | .dfr cs,h=>ea n cs h
 | .int ..,_=>rfl
 | .bool _,_=>rfl
 | .str _,_=>rfl
 | .nilp,_=>rfl
 | .mnil,_=>rfl
 | .snil,_=>rfl
 | .fnil,_=>rfl
 | .inil,_=>rfl
 | .val _,_=>rfl
 | .junk,_=>rfl
theorem ea (n:Nat):∀ l:List AV,i_ l=true→ltL n l=true
 | [],_=>rfl
 | x::r,h=>by
  simp only [i_,aj] at h
  simp only [ltL,aj]
  exact⟨AV.lt_of_noref n x h.1,ea n r h.2⟩
theorem mm (n:Nat):∀ l:List (AV × AV),rC l=true→lh n l=true
 | [],_=>rfl
 | (a,b)::r,h=>by
  simp only [rC,aj] at h
  simp only [lh,aj]
  exact⟨⟨AV.lt_of_noref n a h.1.1,AV.lt_of_noref n b h.1.2⟩,mm n r h.2⟩
end
mutual
def AV.plain:AV→Bool
 | .own .. | .oel .. | .sown .. | .mown .. | .yld _ | .snil=>false
 | .pro cs=>plainL cs
 | .sval f els=>!f&&plainL els
 | .mval es=>mZ es
 | .fn _ a c=>plainL a&&plainL c
 | .ifc _ v=>v.plain
 | .agg cs=>plainL cs
 | .tup cs=>plainL cs
 | .dfr _=>false
 | _=>true
def plainL:List AV→Bool
 | []=>true
 | x::r=>x.plain&&plainL r
def mZ:List (AV × AV)→Bool
 | []=>true
 | (a,b)::r=>a.plain&&b.plain&&mZ r
end
theorem uP {l:List AV}:plainL l=true↔∀ x∈l,x.plain=true:=by
 induction l with
 | nil=>simp [plainL]
 | cons x l ih=>simp [plainL,ih]
theorem ej {α:Type}{f:α→AV} (h:∀ x,(f x).plain=true) (l:List α):plainL (l.map f)=true:=by
 rw [uP];intro x hx;obtain⟨y,_,rfl⟩:=aH.1 hx;exact h y
def conv (S:List ax) (fr:Nat→Bool):Nat→AV→AV
 | 0,x=>if x.plain then x else .junk
 | d+1,x=>if x.plain then x else
  match x with
  | .sown a g n=>if fr a then (match S[a]? with
    | some (.arr _ sz _ g' els)=>if g=g'∧n=els.length then (if plainL els then .sval false els else (if cC sz (els.map (conv S fr d)) then .sval false (els.map (conv S fr d)) else .junk)) else .junk
    | _=>.junk) else x
  | .snil=>.sval false []
  | .sval _ els=>.sval false els
  | .own a o=>if fr a then (match S[a]? with
    | some (.cells cs _)=>if gN ((cs.drop o).map (conv S fr d)) then .pro ((cs.drop o).map (conv S fr d)) else .junk
    | _=>.junk) else x
  | .mown a=>if fr a then (match S[a]? with
    | some (.mp _ es)=>.mval (es.map fun e=>(e.1,conv S fr d e.2))
    | _=>.junk) else x
  | .mval es=>.mval (es.map fun e=>(e.1,conv S fr d e.2))
  | .agg cs=>.agg (cs.map (conv S fr d))
  | .tup cs=>.tup (cs.map (conv S fr d))
  | .fn f a c=>.fn f (a.map (conv S fr d)) (c.map (conv S fr d))
  | .ifc t v=>.ifc t (conv S fr d v)
  | x=>x
end Go.Fen
