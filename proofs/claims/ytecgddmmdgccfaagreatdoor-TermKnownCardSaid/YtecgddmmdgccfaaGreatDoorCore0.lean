/- YtecgddmmdgccfaaGreatDoorCore0. Texts of the proof of a law about texts: a layer of abstract values above the worlds, the types, the walks of the functions that the law reaches, the law and its card. Own work of an AI agent. -/
import Derived.WalkKit
import Derived.RangeFuncOwn
import Derived.RangeFuncLeaves
import Derived.WalkSpells
import Derived.WalkLawsBesides
import Derived.Laws.BytesString
import Derived.Lib.Builder
import Derived.MapKept
import Derived.Lib.UnsafeStr
import Derived.Deep.AppendSrc
import Derived.RangeFuncRecord
set_option linter.all false
set_option linter.unusedVariables false
set_option linter.unusedSimpArgs false
namespace Go.Fen
open Go.RowKit
inductive AV where
  | int (k : IntKind) (n : Int)
  | bool (b : Bool)
  | str (s : List UInt8)
  | nilp
  | own (a off : Nat)
  | oel (a g i off : Nat)
  | pro (cs : List AV)
  | snil
  | sval (full : Bool) (els : List AV)
  | sown (a g n : Nat)
  | mnil
  | mown (a : Nat)
  | mval (es : List (AV × AV))
  | fn (f : Fn) (first cap : List AV)
  | fnil
  | yld (a : Nat)
  | ifc (t : TypeId) (v : AV)
  | inil
  | agg (cs : List AV)
  | tup (vs : List AV)
  | dfr (l : List AV)
  | val (v : Value)
  | junk
  deriving Inhabited
def AV.cells : AV → List AV
  | .agg cs => cs
  | v => [v]
def AV.leaf : AV → Bool
  | .agg _ | .tup _ | .junk | .dfr _ => false
  | _ => true
structure Pl where
  blk : Nat
  gen : Nat
  sv : Value
  sz : Nat
structure Psi where
  c : Nat → Nat → Option Value
  m : Nat → Option (Array MapEntry × Nat)
def Psi.le (p q : Psi) : Prop := (∀ b o v, p.c b o = some v → q.c b o = some v) ∧ (∀ b e, p.m b = some e → q.m b = some e)
inductive VR (ι : List Pl) (ψ : Psi) : AV → Value → Prop
  | int (k n) : VR ι ψ (.int k n) (.int k n)
  | bool (b) : VR ι ψ (.bool b) (.bool b)
  | str (s : List UInt8) (b : ByteArray) (h : b.data.toList = s) : VR ι ψ (.str s) (.string b)
  | nilp : VR ι ψ .nilp (.pointer none)
  | own (a off : Nat) (pl : Pl) (h : ι[a]? = some pl) : VR ι ψ (.own a off) (.pointer (some ⟨pl.blk, off, none⟩))
  | oel (a g i off : Nat) (ad : Addr) (pl : Pl) (h : ι[a]? = some pl) (hg : g ≤ pl.gen) (hs : g = pl.gen → ∃ b, pl.sv.ownBlock = some b ∧ ad = ⟨b, i * pl.sz + off, none⟩) : VR ι ψ (.oel a g i off) (.pointer (some ad))
  | pro (cs : List AV) (b o : Nat) (cv : Nat → Value) (h1 : ∀ j x, cs[j]? = some x → x.leaf = true ∧ ψ.c b (o + j) = some (cv j)) (h2 : ∀ j x, cs[j]? = some x → VR ι ψ x (cv j)) :
      VR ι ψ (.pro cs) (.pointer (some ⟨b, o, none⟩))
  | snil : VR ι ψ .snil (.slice none 0 0)
  | svnil (full : Bool) : VR ι ψ (.sval full []) (.slice none 0 0)
  | sve (full : Bool) (a : Addr) (cap : Nat) (hf : full = true → cap = 0) : VR ι ψ (.sval full []) (.slice (some a) 0 cap)
  | sval (sz : Nat) (full : Bool) (els : List AV) (b o cap : Nat) (cv : Nat → Nat → Value) (hsz : ∀ (i : Nat) (e : AV), els[i]? = some e → e.cells.length = sz) (hcap : els.length ≤ cap) (hf : full = true → cap = els.length)
      (h1 : ∀ (i : Nat) (e : AV) (j : Nat) (x : AV), els[i]? = some e → e.cells[j]? = some x → x.leaf = true ∧ ψ.c b (o + i * sz + j) = some (cv i j))
      (h2 : ∀ (i : Nat) (e : AV) (j : Nat) (x : AV), els[i]? = some e → e.cells[j]? = some x → VR ι ψ x (cv i j)) : VR ι ψ (.sval full els) (.slice (some ⟨b, o, none⟩) els.length cap)
  | sown (a g n : Nat) (ad : Option Addr) (cap : Nat) (pl : Pl) (h : ι[a]? = some pl) (hg : g ≤ pl.gen) (hs : g = pl.gen → Value.slice ad n cap = pl.sv) : VR ι ψ (.sown a g n) (.slice ad n cap)
  | mnil : VR ι ψ .mnil (.map none)
  | mown (a : Nat) (pl : Pl) (h : ι[a]? = some pl) : VR ι ψ (.mown a) (.map (some pl.blk))
  | mval (es l : List (AV × AV)) (b ck : Nat) (me : Array MapEntry) (hb : ψ.m b = some (me, ck)) (hp : l.Perm es) (hl : l.length = me.size) (hn : (es.map Prod.fst).Nodup)
      (h1 : ∀ (i : Nat) (e : AV × AV) (m : MapEntry), l[i]? = some e → me[i]? = some m → VR ι ψ e.1 m.key) (h2 : ∀ (i : Nat) (e : AV × AV) (m : MapEntry), l[i]? = some e → me[i]? = some m → VR ι ψ e.2 m.val) : VR ι ψ (.mval es) (.map (some b))
  | fn (f : Fn) (first cap : List AV) (vf vc : Array Value) (hl1 : first.length = vf.size) (hl2 : cap.length = vc.size)
      (h1 : ∀ (j : Nat) (x : AV) (v : Value), first[j]? = some x → vf[j]? = some v → VR ι ψ x v) (h2 : ∀ (j : Nat) (x : AV) (v : Value), cap[j]? = some x → vc[j]? = some v → VR ι ψ x v) : VR ι ψ (.fn f first cap) (.func f vf vc)
  | fnil : VR ι ψ .fnil .nilFunc
  | yld (a : Nat) (pl : Pl) (h : ι[a]? = some pl) : VR ι ψ (.yld a) (.func (.yield pl.blk) #[] #[])
  | ifc (t : TypeId) (x : AV) (v : Value) (h : VR ι ψ x v) : VR ι ψ (.ifc t x) (.iface t v)
  | inil : VR ι ψ .inil .nilIface
  | agg (cs : List AV) (vs : Array Value) (hl : cs.length = vs.size) (h : ∀ (j : Nat) (x : AV) (v : Value), cs[j]? = some x → vs[j]? = some v → VR ι ψ x v) : VR ι ψ (.agg cs) (.agg vs)
  | tup (cs : List AV) (vs : Array Value) (hl : cs.length = vs.size) (h : ∀ (j : Nat) (x : AV) (v : Value), cs[j]? = some x → vs[j]? = some v → VR ι ψ x v) : VR ι ψ (.tup cs) (.tuple vs)
  | dfr (cs : List AV) (vs : List Value) (hl : cs.length = vs.length) (h : ∀ (j : Nat) (x : AV) (v : Value), cs[j]? = some x → vs[j]? = some v → VR ι ψ x v) : VR ι ψ (.dfr cs) undef
  | val (v : Value) (h : v.oneCell' = true) : VR ι ψ (.val v) v
  | junk (v : Value) : VR ι ψ .junk v
structure Ext (ι : List Pl) (ψ : Psi) (ι' : List Pl) (ψ' : Psi) : Prop where
  pl : ∀ (i : Nat) (p : Pl), ι[i]? = some p → ∃ p' : Pl, ι'[i]? = some p' ∧ p'.blk = p.blk ∧ p.gen ≤ p'.gen ∧ (p.gen = p'.gen → p' = p)
  psi : ψ.le ψ'
theorem Psi.le_refl (p : Psi) : p.le p := ⟨fun _ _ _ h => h, fun _ _ h => h⟩
theorem Psi.le_trans {p q r : Psi} (h : p.le q) (k : q.le r) : p.le r := ⟨fun b o v e => k.1 _ _ _ (h.1 b o v e), fun b e' e => k.2 _ _ (h.2 b e' e)⟩
theorem Ext.refl (ι : List Pl) (ψ : Psi) : Ext ι ψ ι ψ := ⟨fun _ p h => ⟨p, h, rfl, Nat.le_refl _, fun _ => rfl⟩, Psi.le_refl _⟩
theorem Ext.trans {ι ι' ι'' : List Pl} {ψ ψ' ψ'' : Psi} (h : Ext ι ψ ι' ψ') (k : Ext ι' ψ' ι'' ψ'') : Ext ι ψ ι'' ψ'' := by
  refine ⟨fun i p hp => ?_, Psi.le_trans h.psi k.psi⟩
  obtain ⟨p1, h1, hb1, hg1, he1⟩ := h.pl i p hp
  obtain ⟨p2, h2, hb2, hg2, he2⟩ := k.pl i p1 h1
  refine ⟨p2, h2, hb2.trans hb1, Nat.le_trans hg1 hg2, fun e => ?_⟩
  have e1 : p.gen = p1.gen := by omega
  have e2 : p1.gen = p2.gen := by omega
  rw [he2 e2, he1 e1]
theorem VR.mono {ι ι' : List Pl} {ψ ψ' : Psi} (hx : Ext ι ψ ι' ψ') {x : AV} {v : Value} (h : VR ι ψ x v) : VR ι' ψ' x v := by
  induction h with
  | int k n => exact .int k n
  | bool b => exact .bool b
  | str s b h => exact .str s b h
  | nilp => exact .nilp
  | own a off pl h =>
    obtain ⟨p', h', hb, _⟩ := hx.pl a pl h
    rw [← hb]; exact .own a off p' h'
  | oel a g i off ad pl h hg hs =>
    obtain ⟨p', h', hb, hg', he⟩ := hx.pl a pl h
    refine .oel a g i off ad p' h' (Nat.le_trans hg hg') fun e => ?_
    have : pl.gen = p'.gen := by omega
    rw [he this]; exact hs (by omega)
  | pro cs b o cv h1 h2 ih => exact .pro cs b o cv (fun j x e => ⟨(h1 j x e).1, hx.psi.1 _ _ _ (h1 j x e).2⟩) ih
  | snil => exact .snil
  | svnil full => exact .svnil full
  | sve full a cap hf => exact .sve full a cap hf
  | sval sz full els b o cap cv hsz hcap hf h1 h2 ih => exact .sval sz full els b o cap cv hsz hcap hf (fun i e j x he hj => ⟨(h1 i e j x he hj).1, hx.psi.1 _ _ _ (h1 i e j x he hj).2⟩) ih
  | sown a g n ad cap pl h hg hs =>
    obtain ⟨p', h', hb, hg', he⟩ := hx.pl a pl h
    refine .sown a g n ad cap p' h' (Nat.le_trans hg hg') fun e => ?_
    have : pl.gen = p'.gen := by omega
    rw [he this]; exact hs (by omega)
  | mnil => exact .mnil
  | mown a pl h =>
    obtain ⟨p', h', hb, _⟩ := hx.pl a pl h
    rw [← hb]; exact .mown a p' h'
  | mval es l b ck me hb hp hl hn h1 h2 ih1 ih2 => exact .mval es l b ck me (hx.psi.2 _ _ hb) hp hl hn ih1 ih2
  | fn f first cap vf vc hl1 hl2 h1 h2 ih1 ih2 => exact .fn f first cap vf vc hl1 hl2 ih1 ih2
  | fnil => exact .fnil
  | yld a pl h =>
    obtain ⟨p', h', hb, _⟩ := hx.pl a pl h
    rw [← hb]; exact .yld a p' h'
  | ifc t x v h ih => exact .ifc t x v ih
  | inil => exact .inil
  | agg cs vs hl h ih => exact .agg cs vs hl ih
  | tup cs vs hl h ih => exact .tup cs vs hl ih
  | dfr cs vs hl h ih => exact .dfr cs vs hl ih
  | val v h => exact .val v h
  | junk v => exact .junk v
inductive Blk where
  | cells (cs : List AV) (ty : Option TypeId := none)
  | arr (e : TypeId) (sz fz g : Nat) (els : List AV)
  | obj (o : Obj)
  | loop (st : LoopState) (pend : Option Code) (N : Nat) (tm : List (Nat × AV)) (ps : Array Tmp) (assign body : Code)
  | mp (fz : Bool) (es : List (AV × AV))
  | mit (cur : Option (AV × AV)) (rest : List (AV × AV))
  | dead
  deriving Inhabited
def MapOk (me : Array MapEntry) (c : Nat) : Prop := (∀ m ∈ me.toList, m.born < c) ∧ (me.toList.map (·.born)).Nodup
def EntR (ι : List Pl) (ψ : Psi) (l : List (AV × AV)) (me : List MapEntry) : Prop :=
  l.length = me.length ∧ ∀ (i : Nat) (e : AV × AV) (m : MapEntry), l[i]? = some e → me[i]? = some m → VR ι ψ e.1 m.key ∧ VR ι ψ e.2 m.val
theorem EntR.mono {ι ι' : List Pl} {ψ ψ' : Psi} (hx : Ext ι ψ ι' ψ') {l : List (AV × AV)} {me : List MapEntry} (h : EntR ι ψ l me) : EntR ι' ψ' l me :=
  ⟨h.1, fun i e m he hm => ⟨(h.2 i e m he hm).1.mono hx, (h.2 i e m he hm).2.mono hx⟩⟩
def flat (els : List AV) : List AV := els.flatMap AV.cells
def ObjOk (pl : Pl) (o : Obj) : Prop := o.isCells = true → pl.gen = 0 ∧ pl.sz = 1 ∧ ∃ n cap, pl.sv = .slice (some ⟨pl.blk, 0, none⟩) n cap
def BRel (n0 : Nat) (ι : List Pl) (ψ : Psi) (w : World) (pl : Pl) : Blk → Prop
  | .cells cs ty => n0 ≤ pl.blk ∧ (∃ (c : Array Value) (T : TypeId), w.heap[pl.blk]? = some (.cells c T (0, 0)) ∧ c.size = cs.length ∧ ∀ (j : Nat) (x : AV), cs[j]? = some x → x.leaf = true ∧ ∃ v, c[j]? = some v ∧ VR ι ψ x v) ∧ (∀ o, ψ.c pl.blk o = none) ∧ (∀ t, ty = some t → ∃ c, w.heap[pl.blk]? = some (.cells c t (0, 0)))
  | .arr e sz fz g els => (pl.gen = g ∧ pl.sz = sz) ∧ (∀ x ∈ els, x.cells.length = sz) ∧ 0 < sz ∧ fz ≤ els.length ∧ (∃ xs : List Value, w.ownsRow n0 e sz pl.sv els.length xs ∧
      (∀ (j : Nat) (x : AV), (flat els)[j]? = some x → x.leaf = true ∧ ∃ v, xs[j]? = some v ∧ VR ι ψ x v ∧ (j < fz * sz → ∀ k, pl.sv.ownBlock = some k → ψ.c k j = some v))) ∧
      (∀ (k o : Nat), pl.sv.ownBlock = some k → fz * sz ≤ o → ψ.c k o = none)
  | .obj o => n0 ≤ pl.blk ∧ w.heap[pl.blk]? = some o ∧ ObjOk pl o ∧ (∀ k, ψ.c pl.blk k = none) ∧ ψ.m pl.blk = none
  | .loop st pend N tm ps assign body => n0 ≤ pl.blk ∧ (∃ (fn : FuncId) (vs : Array Value) (d : Nat), w.heap[pl.blk]? = some (.loop { state := st, pending := pend, fn, tmps := vs, params := ps, assign, body, defers := d }) ∧
      vs.size = N ∧ ∀ p ∈ tm, VR ι ψ p.2 (vs.getD p.1 undef)) ∧ (∀ k, ψ.c pl.blk k = none) ∧ ψ.m pl.blk = none
  | .mp fz es => n0 ≤ pl.blk ∧ (es.map Prod.fst).Nodup ∧ (∃ (me : Array MapEntry) (c : Nat) (l : List (AV × AV)), w.heap[pl.blk]? = some (.map me c) ∧ MapOk me c ∧ l.Perm es ∧ EntR ι ψ l me.toList ∧ ψ.m pl.blk = if fz then some (me, c) else none) ∧
      (∀ k, ψ.c pl.blk k = none)
  | .mit cur rest => n0 ≤ pl.blk ∧ ((w.heap[pl.blk]? = some (.mapIter none 0 #[] 0) ∧ rest = [] ∧ cur = none) ∨ ∃ (mb ck : Nat) (me : Array MapEntry) (seen : Array Nat) (l : List (AV × AV)), w.heap[pl.blk]? = some (.mapIter (some mb) ck seen ck) ∧
      ψ.m mb = some (me, ck) ∧ l.Perm rest ∧ EntR ι ψ l (me.toList.filter (fun e => !seen.contains e.born)) ∧
      (∀ e, cur = some e → ∃ b m, seen.back? = some b ∧ me.find? (·.born == b) = some m ∧ VR ι ψ e.1 m.key ∧ VR ι ψ e.2 m.val)) ∧ (∀ k, ψ.c pl.blk k = none) ∧ ψ.m pl.blk = none
  | .dead => True
def Blk.at (pl : Pl) : Blk → Option Nat
  | .cells .. => some pl.blk
  | .obj _ => some pl.blk
  | .loop .. => some pl.blk
  | .mp .. => some pl.blk
  | .mit .. => some pl.blk
  | .arr .. => pl.sv.ownBlock
  | .dead => none
structure Rel (w0 : World) (ι : List Pl) (ψ : Psi) (S : List Blk) (w : World) : Prop where
  below : Below w0.heap.size w0 w
  psi : ∀ b o v, ψ.c b o = some v → w.cell? ⟨b, o, none⟩ = some v
  psim : ∀ b es c, ψ.m b = some (es, c) → w.heap[b]? = some (.map es c) ∧ MapOk es c
  len : ι.length = S.length
  blk : ∀ (i : Nat) (B : Blk) (pl : Pl), S[i]? = some B → ι[i]? = some pl → BRel w0.heap.size ι ψ w pl B
  old : ∀ b o v, b < w0.heap.size → w0.cell? ⟨b, o, none⟩ = some v → ψ.c b o = some v
  inj : ∀ (i j : Nat) (B C : Blk) (p q : Pl) (k : Nat), S[i]? = some B → S[j]? = some C → ι[i]? = some p → ι[j]? = some q → B.at p = some k → C.at q = some k → i = j
theorem BRel.ext {n0 : Nat} {ι ι' : List Pl} {ψ ψ' : Psi} {w w' : World} {pl : Pl} {B : Blk} (h : BRel n0 ι ψ w pl B) (hx : Ext ι ψ ι' ψ')
    (hw : ∀ k, B.at pl = some k → w'.heap[k]? = w.heap[k]?) (hp : ∀ k o, B.at pl = some k → ψ'.c k o = ψ.c k o) (hm : ∀ k, B.at pl = some k → ψ'.m k = ψ.m k) : BRel n0 ι' ψ' w' pl B := by
  cases B with
  | cells cs ty =>
    obtain ⟨h0, ⟨c, T, h1, h2, h3⟩, h4, h5⟩ := h
    refine ⟨h0, ⟨c, T, (hw _ rfl).trans h1, h2, fun j x e => ?_⟩, fun o => (hp _ o rfl).trans (h4 o), fun t ht => let ⟨c, hc⟩ := h5 t ht; ⟨c, (hw _ rfl).trans hc⟩⟩
    obtain ⟨hl, v, hv, hr⟩ := h3 j x e
    exact ⟨hl, v, hv, hr.mono hx⟩
  | arr e sz fz g els =>
    obtain ⟨hg, hsz, hpos, hfz, ⟨xs, hown, hxs⟩, hps⟩ := h
    refine ⟨hg, hsz, hpos, hfz, ⟨xs, ?_, fun j x e' => ?_⟩, fun k o hk ho => (hp k o hk).trans (hps k o hk ho)⟩
    · refine ⟨hown.1, ?_⟩
      rcases hown.2 with hn | ⟨g', cap, cur, hv, hb, hgg, rest⟩
      · exact .inl hn
      · exact .inr ⟨g', cap, cur, hv, hb, (hw g' (by simp [Blk.at, hv, Value.ownBlock])).trans hgg, rest⟩
    · obtain ⟨hl, v, hv, hr, hro⟩ := hxs j x e'
      exact ⟨hl, v, hv, hr.mono hx, fun r k hk => (hp _ _ hk).trans (hro r k hk)⟩
  | obj o =>
    obtain ⟨h0, h1, h2, h3, h4⟩ := h
    exact ⟨h0, (hw _ rfl).trans h1, h2, fun k => (hp _ k rfl).trans (h3 k), (hm _ rfl).trans h4⟩
  | loop st pend N tm ps assign body =>
    obtain ⟨h0, ⟨fn, vs, d, h1, h2, h2'⟩, h3, h4⟩ := h
    exact ⟨h0, ⟨fn, vs, d, (hw _ rfl).trans h1, h2, fun p hp' => (h2' p hp').mono hx⟩, fun k => (hp _ k rfl).trans (h3 k), (hm _ rfl).trans h4⟩
  | mp fz es =>
    obtain ⟨h0, hn, ⟨me, c, l, h1, h2, h3, h4, h5⟩, h6⟩ := h
    exact ⟨h0, hn, ⟨me, c, l, (hw _ rfl).trans h1, h2, h3, h4.mono hx, (hm _ rfl).trans h5⟩, fun k => (hp _ k rfl).trans (h6 k)⟩
  | mit cur rest =>
    obtain ⟨h0, h1, h3, h4⟩ := h
    refine ⟨h0, ?_, fun k => (hp _ k rfl).trans (h3 k), (hm _ rfl).trans h4⟩
    rcases h1 with ⟨h1, h2⟩ | ⟨mb, ck, me, seen, l, h1, h2, h6, h7, h8⟩
    · exact .inl ⟨(hw _ rfl).trans h1, h2⟩
    · exact .inr ⟨mb, ck, me, seen, l, (hw _ rfl).trans h1, hx.psi.2 _ _ h2, h6, h7.mono hx, fun e he => let ⟨b, m, k1, k2, k3, k4⟩ := h8 e he; ⟨b, m, k1, k2, k3.mono hx, k4.mono hx⟩⟩
  | dead => trivial
end Go.Fen
namespace Go.Fen
open Go.RowKit
variable {P : Program} {w0 w w' : World} {ι : List Pl} {ψ : Psi} {S : List Blk}
def Psi.addRow (ψ : Psi) (b : Nat) (c : List Value) : Psi := { ψ with c := fun b' o => if b' = b then c[o]? else ψ.c b' o }
theorem Psi.le_addRow {b : Nat} {c : List Value} (h : ∀ o v, ψ.c b o = some v → c[o]? = some v) : ψ.le (ψ.addRow b c) := by
  refine ⟨fun b' o v e => ?_, fun _ _ e => e⟩
  simp only [Psi.addRow]
  split
  · next hb => subst hb; exact h o v e
  · exact e
theorem Rel.psi_new (h : Rel w0 ι ψ S w) {b : Nat} (hb : w.heap.size ≤ b) (o : Nat) : ψ.c b o = none := by
  cases e : ψ.c b o with
  | none => rfl
  | some v =>
    have h1 := h.psi b o v e
    have h2 := World.block_lt_of_cell? w _ h1
    simp at h2
    omega
theorem Rel.n0 (h : Rel w0 ι ψ S w) : w0.heap.size ≤ w.heap.size := h.below.size
theorem BRel.at_obj {n0 : Nat} {pl : Pl} {B : Blk} {k : Nat} (h : BRel n0 ι ψ w pl B) (hk : B.at pl = some k) : n0 ≤ k ∧ ∃ o, w.heap[k]? = some o ∧ ((∃ c T, o = .cells c T (0, 0)) ∨ ψ.m k = none ∨ ∃ es, B = .mp true es) := by
  cases B with
  | cells cs ty =>
    obtain ⟨h0, ⟨c, T, h1, _⟩, _⟩ := h
    simp [Blk.at] at hk
    subst hk
    exact ⟨h0, _, h1, .inl ⟨c, T, rfl⟩⟩
  | arr e sz fz g els =>
    obtain ⟨_, _, _, _, ⟨xs, hown, _⟩, _⟩ := h
    rcases hown.2 with ⟨hn, _⟩ | ⟨g', cap, cur, hv, hb, hgg, _⟩
    · simp [Blk.at, hn, Value.ownBlock] at hk
    · simp [Blk.at, hv, Value.ownBlock] at hk
      subst hk
      exact ⟨hb, _, hgg, .inl ⟨cur, e, rfl⟩⟩
  | obj o =>
    obtain ⟨h0, h1, h2, h3, h4⟩ := h
    simp [Blk.at] at hk
    subst hk
    exact ⟨h0, o, h1, .inr (.inl h4)⟩
  | loop st pend N tm ps assign body =>
    obtain ⟨h0, ⟨fn, vs, d, h1, _⟩, h3, h4⟩ := h
    simp [Blk.at] at hk
    subst hk
    exact ⟨h0, _, h1, .inr (.inl h4)⟩
  | mp fz es =>
    obtain ⟨h0, hn, ⟨me, c, l, h1, h2, h3, h4, h5⟩, h6⟩ := h
    simp [Blk.at] at hk
    subst hk
    cases fz
    · exact ⟨h0, _, h1, .inr (.inl (by simpa using h5))⟩
    · exact ⟨h0, _, h1, .inr (.inr ⟨es, rfl⟩)⟩
  | mit cur rest =>
    obtain ⟨h0, h1, h3, h4⟩ := h
    simp [Blk.at] at hk
    subst hk
    rcases h1 with ⟨h1, _⟩ | ⟨mb, ck, me, seen, l, h1, _⟩ <;> exact ⟨h0, _, h1, .inr (.inl h4)⟩
  | dead => simp [Blk.at] at hk
theorem lt_of_heap {k : Nat} {o : Obj} (h : w.heap[k]? = some o) : k < w.heap.size := (Array.getElem?_eq_some_iff.1 h).1
theorem BRel.at_lt {n0 : Nat} {pl : Pl} {B : Blk} {k : Nat} (h : BRel n0 ι ψ w pl B) (hk : B.at pl = some k) : n0 ≤ k ∧ k < w.heap.size := by
  obtain ⟨h0, o, h1, _⟩ := h.at_obj hk
  exact ⟨h0, lt_of_heap h1⟩
theorem Rel.get (h : Rel w0 ι ψ S w) {i : Nat} {B : Blk} (hi : S[i]? = some B) : ∃ pl, ι[i]? = some pl ∧ BRel w0.heap.size ι ψ w pl B := by
  have h1 : i < ι.length := by rw [h.len]; exact (List.getElem?_eq_some_iff.1 hi).1
  exact ⟨ι[i], by simp [h1], h.blk i B _ hi (by simp [h1])⟩
theorem Rel.getS (h : Rel w0 ι ψ S w) {i : Nat} {pl : Pl} (hi : ι[i]? = some pl) : ∃ B, S[i]? = some B ∧ BRel w0.heap.size ι ψ w pl B := by
  have h1 : i < S.length := by rw [← h.len]; exact (List.getElem?_eq_some_iff.1 hi).1
  exact ⟨S[i], by simp [h1], h.blk i _ pl (by simp [h1]) hi⟩
theorem Rel.same_heap (h : Rel w0 ι ψ S w) (hh : w'.heap = w.heap) (ho : w'.os = w.os) (ht : w'.tape = w.tape) (hu : w'.output = w.output) : Rel w0 ι ψ S w' := by
  refine ⟨h.below.trans ⟨ho, ht, hu, by rw [hh]; exact Nat.le_refl _, fun k _ => by rw [hh]⟩, fun b o v e => ?_, fun b es c e => by rw [hh]; exact h.psim b es c e, h.len, fun i B pl hB hp => ?_, h.old, h.inj⟩
  · have := h.psi b o v e
    simp only [World.cell?, hh] at this ⊢
    exact this
  · exact (h.blk i B pl hB hp).ext (Ext.refl _ _) (fun k _ => by rw [hh]) (fun _ _ _ => rfl) (fun _ _ => rfl)
theorem Rel.drew (h : Rel w0 ι ψ S w) : Rel w0 ι ψ S w.drew := h.same_heap rfl rfl rfl rfl
theorem Rel.grow (h : Rel w0 ι ψ S w) {ψ' : Psi} (hb : Below w0.heap.size w w') (hold : ∀ k, k < w.heap.size → w'.heap[k]? = w.heap[k]?) (hle : ψ.le ψ')
    (hc : ∀ b o v, ψ'.c b o = some v → ψ.c b o = some v ∨ (w.heap.size ≤ b ∧ w'.cell? ⟨b, o, none⟩ = some v))
    (hm : ∀ b es c, ψ'.m b = some (es, c) → ψ.m b = some (es, c) ∨ (w.heap.size ≤ b ∧ w'.heap[b]? = some (.map es c) ∧ MapOk es c)) : Rel w0 ι ψ' S w' := by
  refine ⟨h.below.trans hb, fun b o v e => ?_, fun b es c e => ?_, h.len, fun i B pl hB hp => ?_, fun b o v hb0 e => hle.1 _ _ _ (h.old b o v hb0 e), h.inj⟩
  · rcases hc b o v e with e1 | ⟨_, e1⟩
    · have h1 := h.psi b o v e1
      have h2 := World.block_lt_of_cell? w _ h1
      rw [World.cell?_of_block (hold b h2)]; exact h1
    · exact e1
  · rcases hm b es c e with e1 | ⟨_, e1⟩
    · obtain ⟨hc', hok⟩ := h.psim b es c e1
      exact ⟨(hold b (lt_of_heap hc')).trans hc', hok⟩
    · exact e1
  · have hB' := h.blk i B pl hB hp
    refine hB'.ext ⟨(Ext.refl ι ψ).pl, hle⟩ (fun k hk => hold k (hB'.at_lt hk).2) (fun k o hk => ?_) (fun k hk => ?_)
    rotate_left
    · have hlt := (hB'.at_lt hk).2
      cases e : ψ'.m k with
      | none =>
        cases e2 : ψ.m k with
        | none => rfl
        | some v => rw [hle.2 k v e2] at e; cases e
      | some v =>
        rcases hm k v.1 v.2 e with e1 | ⟨hge, _⟩
        · exact e1.symm
        · omega
    have hlt := (hB'.at_lt hk).2
    cases e : ψ'.c k o with
    | none =>
      cases e2 : ψ.c k o with
      | none => rfl
      | some v => rw [hle.1 k o v e2] at e; cases e
    | some v =>
      rcases hc k o v e with e1 | ⟨hge, _⟩
      · exact e1.symm
      · omega
theorem Rel.alloc (h : Rel w0 ι ψ S w) (o : Obj) : Rel w0 ι ψ S (w.alloc o) :=
  h.grow ((Below.refl _ w).alloc h.n0 o) (fun k hk => Below.heap_alloc w o k hk) (Psi.le_refl _) (fun _ _ _ e => .inl e) (fun _ _ _ e => .inl e)
theorem Rel.allocRow (h : Rel w0 ι ψ S w) (c : Array Value) (T : TypeId) :
    Rel w0 ι (ψ.addRow w.heap.size c.toList) S (w.alloc (.cells c T)) ∧ Ext ι ψ ι (ψ.addRow w.heap.size c.toList) := by
  have hle : ψ.le (ψ.addRow w.heap.size c.toList) := Psi.le_addRow fun o v e => by rw [h.psi_new (Nat.le_refl _)] at e; cases e
  refine ⟨h.grow ((Below.refl _ w).alloc h.n0 _) (fun k hk => Below.heap_alloc w _ k hk) hle (fun b o v e => ?_) (fun _ _ _ e => .inl e), ⟨(Ext.refl ι ψ).pl, hle⟩⟩
  simp only [Psi.addRow] at e
  split at e
  · next hb => subst hb; exact .inr ⟨Nat.le_refl _, by rw [World.cell?_alloc_new]; simpa using e⟩
  · exact .inl e
theorem Ext.push (ι : List Pl) (ψ : Psi) (p : Pl) : Ext ι ψ (ι ++ [p]) ψ := by
  refine ⟨fun i q hq => ⟨q, ?_, rfl, Nat.le_refl _, fun _ => rfl⟩, Psi.le_refl _⟩
  have : i < ι.length := (List.getElem?_eq_some_iff.1 hq).1
  rw [List.getElem?_append_left this]; exact hq
theorem get_push {α : Type} {l : List α} {x y : α} {i : Nat} (h : (l ++ [x])[i]? = some y) : l[i]? = some y ∨ (i = l.length ∧ y = x) := by
  rcases Nat.lt_trichotomy i l.length with hlt | heq | hgt
  · rw [List.getElem?_append_left hlt] at h; exact .inl h
  · subst heq; simp at h; exact .inr ⟨rfl, h.symm⟩
  · rw [List.getElem?_append_right (by omega)] at h
    have : i - l.length ≠ 0 := by omega
    cases hk : i - l.length with
    | zero => omega
    | succ n => rw [hk] at h; simp at h
theorem Rel.push (h : Rel w0 ι ψ S w) (pl : Pl) (B : Blk) (hB : BRel w0.heap.size (ι ++ [pl]) ψ w pl B)
    (hf : ∀ k, B.at pl = some k → ∀ (i : Nat) (C : Blk) (q : Pl), S[i]? = some C → ι[i]? = some q → C.at q ≠ some k) : Rel w0 (ι ++ [pl]) ψ (S ++ [B]) w := by
  refine ⟨h.below, h.psi, h.psim, by simp [h.len], fun i C q hC hq => ?_, h.old, fun i j C D p q k hC hD hp hq hk1 hk2 => ?_⟩
  · rcases get_push hC with hC | ⟨hi, rfl⟩
    · rcases get_push hq with hq | ⟨hi, rfl⟩
      · exact (h.blk i C q hC hq).ext (Ext.push ι ψ pl) (fun _ _ => rfl) (fun _ _ _ => rfl) (fun _ _ => rfl)
      · have := (List.getElem?_eq_some_iff.1 hC).1; have := h.len; omega
    · rcases get_push hq with hq | ⟨hi, rfl⟩
      · have := (List.getElem?_eq_some_iff.1 hq).1; have := h.len; omega
      · exact hB
  · have old : ∀ (i : Nat) (C : Blk) (p : Pl), i ≠ S.length → (S ++ [B])[i]? = some C → (ι ++ [pl])[i]? = some p → S[i]? = some C ∧ ι[i]? = some p := by
      intro i C p hi hC hp
      refine ⟨(get_push hC).resolve_right (fun e => hi e.1), (get_push hp).resolve_right (fun e => hi (e.1.trans h.len))⟩
    have new : ∀ (i : Nat) (C : Blk) (p : Pl), i = S.length → (S ++ [B])[i]? = some C → (ι ++ [pl])[i]? = some p → C = B ∧ p = pl := by
      intro i C p hi hC hp
      subst hi
      rw [← h.len] at hp
      simp at hC
      simp at hp
      exact ⟨hC.symm, hp.symm⟩
    by_cases hi : i = S.length <;> by_cases hj : j = S.length
    · omega
    · obtain ⟨rfl, rfl⟩ := new i C p hi hC hp
      obtain ⟨h1, h2⟩ := old j D q hj hD hq
      exact absurd hk2 (hf k hk1 j D q h1 h2)
    · obtain ⟨rfl, rfl⟩ := new j D q hj hD hq
      obtain ⟨h1, h2⟩ := old i C p hi hC hp
      exact absurd hk1 (hf k hk2 i C p h1 h2)
    · obtain ⟨h1, h2⟩ := old i C p hi hC hp
      obtain ⟨h3, h4⟩ := old j D q hj hD hq
      exact h.inj i j C D p q k h1 h3 h2 h4 hk1 hk2
theorem Rel.newCells (h : Rel w0 ι ψ S w) (cs : List AV) (c : Array Value) (T : TypeId) (hl : c.size = cs.length) (hc : ∀ (j : Nat) (x : AV), cs[j]? = some x → x.leaf = true ∧ ∃ v : Value, c[j]? = some v ∧ VR ι ψ x v) (ty : Option TypeId := none) (hty : ∀ t, ty = some t → T = t := by intro t e; cases e) :
    Rel w0 (ι ++ [⟨w.heap.size, 0, undef, 0⟩]) ψ (S ++ [.cells cs ty]) (w.alloc (.cells c T)) := by
  have h1 := h.alloc (.cells c T)
  refine h1.push _ _ ⟨h.n0, ⟨c, T, heap_alloc_new w _, hl, fun j x e => ?_⟩, fun o => h.psi_new (Nat.le_refl _) o, fun t ht => ⟨c, by rw [← hty t ht]; exact heap_alloc_new w _⟩⟩ ?_
  · obtain ⟨hlf, v, hv, hr⟩ := hc j x e
    exact ⟨hlf, v, hv, hr.mono (Ext.push ι ψ _)⟩
  · intro k hk i C q hC hq hk2
    simp [Blk.at] at hk
    subst hk
    have := ((h.blk i C q hC hq).at_lt hk2).2
    omega
theorem Rel.update (h : Rel w0 ι ψ S w) {i : Nat} {B B' : Blk} {pl pl' : Pl} {ψ' : Psi} (hi : S[i]? = some B) (hpl : ι[i]? = some pl)
    (hb : Below w0.heap.size w w') (hother : ∀ k, B.at pl ≠ some k → k < w.heap.size → w'.heap[k]? = w.heap[k]?)
    (hext : Ext ι ψ (ι.set i pl') ψ') (hB' : BRel w0.heap.size (ι.set i pl') ψ' w' pl' B')
    (hat : ∀ k, B'.at pl' = some k → B.at pl = some k ∨ w.heap.size ≤ k)
    (hpsi : ∀ b o v, ψ'.c b o = some v → (ψ.c b o = some v ∧ B.at pl ≠ some b) ∨ ((B.at pl = some b ∨ w.heap.size ≤ b) ∧ w'.cell? ⟨b, o, none⟩ = some v)) (hm : ψ'.m = ψ.m) (hfz : ∀ es, B = .mp true es → w'.heap[pl.blk]? = w.heap[pl.blk]? := by intro es hB; cases hB) :
    Rel w0 (ι.set i pl') ψ' (S.set i B') w' := by
  have hB := h.blk i B pl hi hpl
  have hil : i < S.length := (List.getElem?_eq_some_iff.1 hi).1
  have hil' : i < ι.length := by rw [h.len]; exact hil
  refine ⟨h.below.trans hb, fun b o v e => ?_, fun b es c e => ?_, by simp [h.len], fun j C q hC hq => ?_, fun b o v hb0 e => hext.psi.1 _ _ _ (h.old b o v hb0 e), fun j l C D p q k hC hD hp hq hk1 hk2 => ?_⟩
  · rcases hpsi b o v e with ⟨e1, hne⟩ | ⟨_, e1⟩
    · have h1 := h.psi b o v e1
      rw [World.cell?_of_block (hother b hne (World.block_lt_of_cell? w _ h1))]; exact h1
    · exact e1
  · rw [hm] at e
    obtain ⟨hc, hok⟩ := h.psim b es c e
    by_cases hk : B.at pl = some b
    · obtain ⟨_, o, hcells, hcase⟩ := hB.at_obj hk
      rcases hcase with ⟨c', T, rfl⟩ | hn | ⟨es', hmp⟩
      · rw [hcells] at hc; cases hc
      · rw [hn] at e; cases e
      · have h1 := hfz es' hmp
        subst hmp
        simp [Blk.at] at hk
        subst hk
        exact ⟨h1.trans hc, hok⟩
    · exact ⟨(hother b hk (lt_of_heap hc)).trans hc, hok⟩
  · by_cases hji : j = i
    · subst hji
      simp [hil] at hC
      simp [hil'] at hq
      subst hC; subst hq; exact hB'
    · rw [List.getElem?_set_ne (by omega)] at hC hq
      have hC' := h.blk j C q hC hq
      refine hC'.ext hext (fun k hk => hother k (fun hk2 => hji (h.inj j i C B q pl k hC hi hq hpl hk hk2)) (hC'.at_lt hk).2) (fun k o hk => ?_) (fun k _ => by rw [hm])
      have hne : B.at pl ≠ some k := fun hk2 => hji (h.inj j i C B q pl k hC hi hq hpl hk hk2)
      cases e : ψ'.c k o with
      | none =>
        cases e2 : ψ.c k o with
        | none => rfl
        | some v => rw [hext.psi.1 k o v e2] at e; cases e
      | some v =>
        rcases hpsi k o v e with ⟨e1, _⟩ | ⟨hk3 | hge, _⟩
        · exact e1.symm
        · exact absurd hk3 hne
        · have := (hC'.at_lt hk).2; omega
  · have key : ∀ (j : Nat) (C : Blk) (p : Pl) (k : Nat), j ≠ i → S[j]? = some C → ι[j]? = some p → C.at p = some k → B'.at pl' = some k → False := by
      intro j C p k hji hC hp hk1 hk2
      rcases hat k hk2 with hk3 | hge
      · exact hji (h.inj j i C B p pl k hC hi hp hpl hk1 hk3)
      · have := ((h.blk j C p hC hp).at_lt hk1).2; omega
    by_cases hj : j = i <;> by_cases hl : l = i
    · omega
    · subst hj
      simp [hil] at hC; simp [hil'] at hp
      subst hC; subst hp
      rw [List.getElem?_set_ne (by omega)] at hD hq
      exact (key l D q k hl hD hq hk2 hk1).elim
    · subst hl
      simp [hil] at hD; simp [hil'] at hq
      subst hD; subst hq
      rw [List.getElem?_set_ne (by omega)] at hC hp
      exact (key j C p k hj hC hp hk1 hk2).elim
    · rw [List.getElem?_set_ne (by omega)] at hC hD hp hq
      exact h.inj j l C D p q k hC hD hp hq hk1 hk2
theorem set_self {α : Type} {l : List α} {i : Nat} {x : α} (h : l[i]? = some x) : l.set i x = l := by
  apply List.ext_getElem?
  intro j
  by_cases hj : j = i
  · subst hj
    have : j < l.length := (List.getElem?_eq_some_iff.1 h).1
    simp [this] at h ⊢; exact h.symm
  · rw [List.getElem?_set_ne (by omega)]
def splice (cs : List AV) (off : Nat) (news : List AV) : List AV := cs.take off ++ news ++ cs.drop (off + news.length)
theorem getElem?_splice {α : Type} (cs news : List α) (off j : Nat) (h : off + news.length ≤ cs.length) :
    (cs.take off ++ news ++ cs.drop (off + news.length))[j]? = if off ≤ j ∧ j < off + news.length then news[j - off]? else cs[j]? := by
  have hl : (cs.take off).length = off := by simp; omega
  by_cases h1 : j < off
  · rw [List.append_assoc, List.getElem?_append_left (by omega), if_neg (by omega)]
    simp [h1]
  · by_cases h2 : j < off + news.length
    · rw [List.append_assoc, List.getElem?_append_right (by omega), hl, List.getElem?_append_left (by omega), if_pos (by omega)]
    · rw [List.getElem?_append_right (by simp; omega), if_neg (by omega)]
      simp only [List.length_append, hl, List.getElem?_drop]
      congr 1; omega
theorem Rel.storeCells (h : Rel w0 ι ψ S w) {i : Nat} {cs : List AV} {ty : Option TypeId} {pl : Pl} (hi : S[i]? = some (.cells cs ty)) (hpl : ι[i]? = some pl) (off : Nat) (news : List AV) (nv : List Value)
    (hl : news.length = nv.length) (hn : ∀ (j : Nat) (x : AV), news[j]? = some x → x.leaf = true ∧ ∃ v : Value, nv[j]? = some v ∧ VR ι ψ x v) (h1 : ∀ v ∈ nv, v.oneCell' = true) (hfit : off + news.length ≤ cs.length) :
    ∃ w', (Go.storeCells ⟨pl.blk, off, none⟩ nv).run P w = .ok () w' ∧ Rel w0 ι ψ (S.set i (.cells (splice cs off news) ty)) w' := by
  have hB := h.blk i _ pl hi hpl
  obtain ⟨h0, ⟨c, T, hc, hcl, hcv⟩, hps, hty⟩ := hB
  have hst := run_storeCells_at P pl.blk off T nv 0 c w hc (by omega) h1
  simp only [Nat.add_zero] at hst
  refine ⟨_, hst, ?_⟩
  have hset : ι.set i pl = ι := set_self hpl
  have key := h.update (w' := w.setRow pl.blk (List.take off c.toList ++ nv ++ List.drop (off + nv.length) c.toList).toArray) (ψ' := ψ) (B' := .cells (splice cs off news) ty) (pl' := pl) hi hpl ?_ ?_ ?_ ?_ ?_ ?_ rfl
  · rw [hset] at key; exact key
  · exact ⟨rfl, rfl, rfl, by simp [World.setRow], fun k hk => setRow_other w _ k _ (by omega)⟩
  · intro k hk _
    exact setRow_other w _ k _ (fun e => hk (by simp [Blk.at, e]))
  · rw [hset]; exact Ext.refl _ _
  · rw [hset]
    refine ⟨h0, ⟨_, T, setRow_heap w pl.blk c _ T (0, 0) hc, ?_, fun j x e => ?_⟩, hps, fun t ht => by
      obtain ⟨c2, hc2⟩ := hty t ht
      rw [hc] at hc2; cases hc2
      exact ⟨_, setRow_heap w pl.blk c _ T (0, 0) hc⟩⟩
    · simp [splice]; omega
    · rw [splice, getElem?_splice cs news off j hfit] at e
      have e2 := getElem?_splice c.toList nv off j (by simp; omega)
      simp only [List.getElem?_toArray]
      rw [e2]
      by_cases hj : off ≤ j ∧ j < off + news.length
      · rw [if_pos hj] at e
        rw [if_pos (by omega)]
        exact hn _ x e
      · rw [if_neg hj] at e
        rw [if_neg (by omega)]
        obtain ⟨hlf, v, hv, hr⟩ := hcv j x e
        exact ⟨hlf, v, by simpa using hv, hr⟩
  · intro k hk; exact .inl (by simpa [Blk.at] using hk)
  · intro b o v e
    by_cases hb : b = pl.blk
    · subst hb; rw [hps o] at e; cases e
    · exact .inl ⟨e, fun hk => hb (by simp [Blk.at] at hk; exact hk.symm)⟩
end Go.Fen
namespace Go.Fen
open Go.RowKit
variable {P : Program} {w0 w w' : World} {ι : List Pl} {ψ : Psi} {S : List Blk}
def ofLeaf : Value → AV
  | .int k n => .int k n
  | .bool b => .bool b
  | .string s => .str s.data.toList
  | .pointer none => .nilp
  | .slice none 0 0 => .snil
  | .map none => .mnil
  | .nilFunc => .fnil
  | .nilIface => .inil
  | _ => .junk
def ofV : Value → AV
  | .agg cs => .agg (cs.toList.map ofLeaf)
  | .tuple cs => .tup (cs.toList.map ofLeaf)
  | .iface t v => .ifc t (ofLeaf v)
  | v => ofLeaf v
theorem VR_ofLeaf (v : Value) : VR ι ψ (ofLeaf v) v := by
  unfold ofLeaf
  split <;> first | exact .junk _ | constructor
  rfl
theorem VR_ofV (v : Value) : VR ι ψ (ofV v) v := by
  unfold ofV
  split
  · refine .agg _ _ (by simp) fun j x v h1 h2 => ?_
    simp only [List.getElem?_map, Array.getElem?_toList, h2, Option.map_some, Option.some.injEq] at h1
    subst h1; exact VR_ofLeaf v
  · refine .tup _ _ (by simp) fun j x v h1 h2 => ?_
    simp only [List.getElem?_map, Array.getElem?_toList, h2, Option.map_some, Option.some.injEq] at h1
    subst h1; exact VR_ofLeaf v
  · exact .ifc _ _ _ (VR_ofLeaf _)
  · exact VR_ofLeaf _
def leafV : Value → AV
  | .int k n => .int k n
  | .bool b => .bool b
  | .string s => .str s.data.toList
  | .pointer none => .nilp
  | .slice none 0 0 => .sval false []
  | .map none => .mnil
  | .nilFunc => .fnil
  | .nilIface => .inil
  | .iface t v => .ifc t (leafV v)
  | v => if v.oneCell' then .val v else .junk
theorem VR_one (v : Value) : VR ι ψ (if v.oneCell' then .val v else .junk) v := by
  cases h : v.oneCell'
  · exact .junk v
  · exact .val v h
theorem VR_leafV : (v : Value) → VR ι ψ (leafV v) v
  | .int k n => .int k n
  | .bool b => .bool b
  | .float k n => VR_one _
  | .complex k a b => VR_one _
  | .string s => .str _ _ rfl
  | .pointer none => .nilp
  | .pointer (some a) => VR_one _
  | .slice none 0 0 => .svnil _
  | .slice none 0 (n + 1) => VR_one _
  | .slice none (m + 1) n => VR_one _
  | .slice (some a) m n => VR_one _
  | .map none => .mnil
  | .map (some r) => VR_one _
  | .chan r => VR_one _
  | .func f a b => VR_one _
  | .nilFunc => .fnil
  | .iface t v => .ifc _ _ _ (VR_leafV v)
  | .nilIface => .inil
  | .agg cs => VR_one _
  | .tuple cs => VR_one _
def gl (w0 : World) (g : Nat) : AV :=
  match w0.heap[g]? with
  | some (.cells c _ _) => if c.toList.all Value.oneCell' then .pro (c.toList.map leafV) else .junk
  | _ => .junk
theorem leaf_leafV {v : Value} (h : v.oneCell' = true) : (leafV v).leaf = true := by
  unfold leafV
  split <;> first | rfl | (rw [if_pos h]; rfl)
theorem gl_sound (h : Rel w0 ι ψ S w) (g : Nat) : VR ι ψ (gl w0 g) (.pointer (some ⟨g, 0, none⟩)) := by
  unfold gl
  split
  · next c T fz hc =>
    split
    · next hall =>
      refine .pro _ g 0 (fun j => (c[j]?).getD undef) (fun j x e => ?_) (fun j x e => ?_)
      all_goals
        simp only [List.getElem?_map, Option.map_eq_some_iff, Array.getElem?_toList] at e
        obtain ⟨v, hv, rfl⟩ := e
      · have h1 := List.all_eq_true.1 hall v (by rw [← Array.getElem?_toList] at hv; exact List.mem_of_getElem? hv)
        refine ⟨leaf_leafV h1, ?_⟩
        rw [Nat.zero_add, hv]
        exact h.old g j v (lt_of_heap hc) (by simp [World.cell?, hc, hv])
      · rw [hv]; exact VR_leafV v
    · exact .junk _
  · exact .junk _
def evalA (w0 : World) (env : Nat → AV) : Operand → AV
  | .tmp t => env t
  | .const v => ofV v
  | .global g => gl w0 g
  | .func f => .fn (.func f) [] []
abbrev DS : Nat := 1000000
def toDef : Value → Deferred
  | .pointer (some ad) => { target := .collected ad.block, args := #[] }
  | .func f vf vc => { target := .fn f vc, args := vf }
  | _ => default
structure EnvR (ι : List Pl) (ψ : Psi) (N : Nat) (env : Nat → AV) (a : Act) : Prop where
  size : a.tmps.size = N
  bound : N ≤ DS
  defers : ∃ (l : List AV) (vs : List Value), env DS = .dfr l ∧ l.length = vs.length ∧ (∀ (j : Nat) (x : AV) (v : Value), l[j]? = some x → vs[j]? = some v → VR ι ψ x v) ∧ a.defers = vs.map toDef
  tmp : ∀ t, VR ι ψ (env t) (a.tmps.getD t undef)
def upd (env : Nat → AV) (t : Nat) (v : AV) : Nat → AV := fun s => if s = t then v else env s
theorem EnvR.mono {ι' : List Pl} {ψ' : Psi} {N : Nat} {env : Nat → AV} {a : Act} (h : EnvR ι ψ N env a) (hx : Ext ι ψ ι' ψ') : EnvR ι' ψ' N env a := by
  refine ⟨h.size, h.bound, ?_, fun t => (h.tmp t).mono hx⟩
  obtain ⟨l, vs, h1, h2, h3, h4⟩ := h.defers
  exact ⟨l, vs, h1, h2, fun j x v hx' hv => (h3 j x v hx' hv).mono hx, h4⟩
theorem EnvR.put {N : Nat} {env : Nat → AV} {a : Act} {d : Nat} {v : AV} {c : Value} (h : EnvR ι ψ N env a) (hv : VR ι ψ v c) (hd : d < N) : EnvR ι ψ N (upd env d v) (a.put (some d) c) := by
  refine ⟨by simp [Act.put, h.size], h.bound, ?_, fun t => ?_⟩
  · obtain ⟨l, vs, h1, h2, h3, h4⟩ := h.defers
    have hb := h.bound
    exact ⟨l, vs, by rw [upd, if_neg (by omega)]; exact h1, h2, h3, h4⟩
  simp only [upd, Act.put]
  by_cases ht : t = d
  · subst ht
    have : t < a.tmps.size := by rw [h.size]; exact hd
    simp [Array.getD, this, hv]
  · rw [if_neg ht]
    have := h.tmp t
    simpa [Array.getD_eq_getD_getElem?, Array.getElem?_setIfInBounds_ne (Ne.symm ht)] using this
theorem EnvR.eval {N : Nat} {env : Nat → AV} {a : Act} (h : EnvR ι ψ N env a) (hR : Rel w0 ι ψ S w) (x : Operand) : VR ι ψ (evalA w0 env x) (a.eval x) := by
  cases x with
  | tmp t => exact h.tmp t
  | const v => exact VR_ofV v
  | global g => exact gl_sound hR g
  | func f => exact .fn _ _ _ _ _ rfl rfl (by simp) (by simp)
theorem VR.int_inv {k : IntKind} {n : Int} {c : Value} (h : VR ι ψ (.int k n) c) : c = .int k n := by cases h; rfl
theorem VR.bool_inv {b : Bool} {c : Value} (h : VR ι ψ (.bool b) c) : c = .bool b := by cases h; rfl
theorem VR.str_inv {s : List UInt8} {c : Value} (h : VR ι ψ (.str s) c) : c = .string ⟨s.toArray⟩ := by
  cases h with
  | str s b h => subst h; rfl
theorem VR.str' (s : List UInt8) : VR ι ψ (.str s) (.string ⟨s.toArray⟩) := .str _ _ (by simp)
theorem VR.agg_inv {cs : List AV} {c : Value} (h : VR ι ψ (.agg cs) c) : ∃ vs : Array Value, c = .agg vs ∧ cs.length = vs.size ∧ ∀ (j : Nat) (x : AV), cs[j]? = some x → ∃ v, vs[j]? = some v ∧ VR ι ψ x v := by
  cases h with
  | agg cs vs hl h =>
    refine ⟨vs, rfl, hl, fun j x e => ?_⟩
    have hj : j < vs.size := by rw [← hl]; exact (List.getElem?_eq_some_iff.1 e).1
    exact ⟨vs[j], by simp [hj], h j x _ e (by simp [hj])⟩
theorem VR.tup_inv {cs : List AV} {c : Value} (h : VR ι ψ (.tup cs) c) : ∃ vs : Array Value, c = .tuple vs ∧ cs.length = vs.size ∧ ∀ (j : Nat) (x : AV), cs[j]? = some x → ∃ v, vs[j]? = some v ∧ VR ι ψ x v := by
  cases h with
  | tup cs vs hl h =>
    refine ⟨vs, rfl, hl, fun j x e => ?_⟩
    have hj : j < vs.size := by rw [← hl]; exact (List.getElem?_eq_some_iff.1 e).1
    exact ⟨vs[j], by simp [hj], h j x _ e (by simp [hj])⟩
theorem VR.cells {x : AV} {c : Value} (h : VR ι ψ x c) (hj : x ≠ .junk) : c.cells.size = x.cells.length ∧ ∀ (j : Nat) (y : AV), x.cells[j]? = some y → ∃ v, c.cells[j]? = some v ∧ VR ι ψ y v := by
  have one : ∀ (x : AV) (c : Value), VR ι ψ x c → x.cells = [x] → c.cells = #[c] → c.cells.size = x.cells.length ∧ ∀ (j : Nat) (y : AV), x.cells[j]? = some y → ∃ v, c.cells[j]? = some v ∧ VR ι ψ y v := by
    intro x c h h1 h2
    rw [h1, h2]
    refine ⟨rfl, fun j y e => ?_⟩
    cases j with
    | zero => simp at e; subst e; exact ⟨c, by simp, h⟩
    | succ n => simp at e
  cases x <;> first
    | exact absurd rfl hj
    | (have hx := h
       cases h with
       | val _ hv => exact one _ _ hx rfl (by cases c <;> first | rfl | simp [Value.oneCell'] at hv))
    | (obtain ⟨vs, rfl, hl, hv⟩ := h.agg_inv; exact ⟨hl.symm, hv⟩)
    | (cases h <;> exact one _ _ (by constructor <;> assumption) rfl rfl)
theorem VR.oneCell {x : AV} {c : Value} (h : VR ι ψ x c) (hl : x.leaf = true) : c.oneCell' = true := by
  cases h <;> first | rfl | assumption | simp [AV.leaf] at hl
def aggT (P : Program) (t : TypeId) : Option Bool :=
  match P.underlying t with
  | some (.struct _) | some (.array _ _) => some true
  | some _ => some false
  | none => none
def sizeT (P : Program) (t : TypeId) : Option Nat := (P.info? t).map (·.size)
theorem run_sizeOf {t : TypeId} {n : Nat} (h : sizeT P t = some n) (w : World) : (sizeOf t).run P w = .ok n w := by
  unfold sizeT at h
  cases hi : P.info? t with
  | none => simp [hi] at h
  | some i => simp [hi] at h; simp [sizeOf, typeInfo, hi, h]
theorem run_isAgg {t : TypeId} {b : Bool} (h : aggT P t = some b) (w : World) : (isAgg t).run P w = .ok b w := by
  unfold aggT at h
  cases hu : P.underlying t with
  | none => simp [hu] at h
  | some d => cases d <;> simp [hu] at h <;> subst h <;> simp [isAgg, run_underlying hu]
def ptee (S : List Blk) : AV → Option (List AV)
  | .own a off => match S[a]? with
    | some (.cells cs _) => some (cs.drop off)
    | _ => none
  | .pro cs => some cs
  | .oel a g i off => match S[a]? with
    | some (.arr _ _ _ g' els) => if g = g' then (els[i]?).map (fun e => e.cells.drop off) else none
    | _ => none
  | _ => none
theorem flat_cons (e : AV) (els : List AV) : flat (e :: els) = e.cells ++ flat els := rfl
theorem flat_length {els : List AV} {sz : Nat} (h : ∀ x ∈ els, x.cells.length = sz) : (flat els).length = els.length * sz := by
  induction els with
  | nil => simp [flat]
  | cons e els ih =>
    rw [flat_cons, List.length_append, h e (by simp), ih (fun x hx => h x (by simp [hx])), List.length_cons, Nat.succ_mul, Nat.add_comm]
theorem flat_get {els : List AV} {sz : Nat} (h : ∀ x ∈ els, x.cells.length = sz) {i j : Nat} {e x : AV} (he : els[i]? = some e) (hx : e.cells[j]? = some x) : (flat els)[i * sz + j]? = some x := by
  induction els generalizing i with
  | nil => simp at he
  | cons e' els ih =>
    have hj : j < sz := by
      have := (List.getElem?_eq_some_iff.1 hx).1
      rw [h e (List.mem_of_getElem? he)] at this; exact this
    rw [flat_cons]
    cases i with
    | zero =>
      simp at he; subst he
      rw [List.getElem?_append_left (by rw [h e' (by simp)]; omega)]
      simpa using hx
    | succ n =>
      simp at he
      rw [List.getElem?_append_right (by rw [h e' (by simp), Nat.succ_mul]; omega), h e' (by simp)]
      have : (n + 1) * sz + j - sz = n * sz + j := by rw [Nat.succ_mul]; omega
      rw [this]
      exact ih (fun x hx => h x (by simp [hx])) he
theorem flat_inv {els : List AV} {sz : Nat} (h : ∀ x ∈ els, x.cells.length = sz) (hp : 0 < sz) {k : Nat} {x : AV} (hx : (flat els)[k]? = some x) : ∃ e, els[k / sz]? = some e ∧ e.cells[k % sz]? = some x := by
  induction els generalizing k with
  | nil => simp [flat] at hx
  | cons e els ih =>
    rw [flat_cons] at hx
    by_cases hk : k < sz
    · rw [List.getElem?_append_left (by rw [h e (by simp)]; exact hk)] at hx
      refine ⟨e, by simp [Nat.div_eq_of_lt hk], by rw [Nat.mod_eq_of_lt hk]; exact hx⟩
    · rw [List.getElem?_append_right (by rw [h e (by simp)]; omega), h e (by simp)] at hx
      obtain ⟨e', h1, h2⟩ := ih (fun x hx => h x (by simp [hx])) hx
      refine ⟨e', ?_, ?_⟩
      · have : k / sz = (k - sz) / sz + 1 := by
          rw [← Nat.sub_add_cancel (show sz ≤ k by omega), Nat.add_div_right _ hp]; simp
        rw [this]; simpa using h1
      · rw [Nat.mod_eq_sub_mod (by omega)]; exact h2
theorem ptee_sound (h : Rel w0 ι ψ S w) {x : AV} {c : Value} {cs : List AV} (hx : VR ι ψ x c) (hp : ptee S x = some cs) :
    ∃ ad : Addr, ad.spot = none ∧ c = .pointer (some ad) ∧ ∀ (j : Nat) (y : AV), cs[j]? = some y → y.leaf = true ∧ ∃ v, w.cell? ⟨ad.block, ad.off + j, none⟩ = some v ∧ VR ι ψ y v := by
  cases hx with
  | own a off pl hpl =>
    simp only [ptee] at hp
    split at hp
    · next cs' ty hS =>
      simp at hp; subst hp
      obtain ⟨_, ⟨c, T, hc, hcl, hcv⟩, _⟩ := h.blk a _ pl hS hpl
      refine ⟨_, rfl, rfl, fun j y e => ?_⟩
      rw [List.getElem?_drop] at e
      obtain ⟨hl, v, hv, hr⟩ := hcv _ y e
      exact ⟨hl, v, by simp [World.cell?, hc, hv], hr⟩
    · cases hp
  | pro cs' b o cv h1 h2 =>
    simp [ptee] at hp; subst hp
    exact ⟨_, rfl, rfl, fun j y e => ⟨(h1 j y e).1, cv j, h.psi _ _ _ (h1 j y e).2, h2 j y e⟩⟩
  | oel a g i off ad pl hpl hg hs =>
    simp only [ptee] at hp
    split at hp
    · next e' sz fz g' els hS =>
      split at hp
      · next hgg =>
        obtain ⟨⟨hgen, hpsz⟩, hsz, hpos, hfz, ⟨xs, hown, hxs⟩, _⟩ := h.blk a _ pl hS hpl
        obtain ⟨b, hb, rfl⟩ := hs (by rw [hgen, hgg])
        cases he : els[i]? with
        | none => simp [he] at hp
        | some e =>
          simp [he] at hp; subst hp
          refine ⟨_, rfl, rfl, fun j y ey => ?_⟩
          rw [List.getElem?_drop] at ey
          obtain ⟨hl, v, hv, hr, _⟩ := hxs _ y (flat_get hsz he ey)
          refine ⟨hl, v, ?_, hr⟩
          have := hown.cells hb _ v hv
          rw [hpsz, Nat.add_assoc]
          simpa [Addr.add_lit] using this
      · cases hp
    · cases hp
  | _ => simp [ptee] at hp
end Go.Fen
namespace Go.Fen
open Go.RowKit
variable {P : Program} {w0 w w' : World} {ι : List Pl} {ψ : Psi} {S : List Blk}
def partA (ag : Bool) (n : Nat) (cs : List AV) : Option AV := if ag then (if n ≤ cs.length then some (.agg (cs.take n)) else none) else cs.head?
def loadA (P : Program) (S : List Blk) (t : TypeId) (x : AV) : Option AV :=
  match aggT P t, sizeT P t, ptee S x with
  | some ag, some n, some cs => partA ag n cs
  | _, _, _ => none
theorem loadA_sound (h : Rel w0 ι ψ S w) {t : TypeId} {x y : AV} {c : Value} (hx : VR ι ψ x c) (he : loadA P S t x = some y) :
    ∃ cv, (Instr.loadAt t c).run P w = .ok cv w ∧ VR ι ψ y cv := by
  unfold loadA at he
  split at he
  · next ag n cs hag hn hp =>
    obtain ⟨⟨b, o, sp⟩, hsp, rfl, hcs⟩ := ptee_sound h hx hp
    simp only at hsp hcs
    subst hsp
    cases ag with
    | true =>
      simp only [partA, if_true] at he
      split at he
      · next hle =>
        simp at he; subst he
        have hf : ∀ j, j < n → w.cell? ((⟨b, o, none⟩ : Addr).add j) = some ((w.cell? ⟨b, o + j, none⟩).getD undef) := by
          intro j hj
          obtain ⟨_, v, hv, _⟩ := hcs j cs[j] (by simp [show j < cs.length by omega])
          rw [Addr.add_lit, hv]; rfl
        refine ⟨.agg (List.map (fun j => (w.cell? ⟨b, o + j, none⟩).getD undef) (List.range n)).toArray, by simp [Instr.loadAt, Instr.sureAddr, loadVar, run_isAgg hag, run_sizeOf hn, run_loadCells w ⟨b, o, none⟩ n _ hf], ?_⟩
        refine .agg _ _ (by simp; omega) fun j z v h1 h2 => ?_
        have hj : j < n := by
          have := (Array.getElem?_eq_some_iff.1 h2).1; simpa using this
        rw [List.getElem?_take, if_pos hj] at h1
        obtain ⟨_, v', hv', hr⟩ := hcs j z h1
        simp [hj, hv'] at h2
        subst h2; exact hr
      · cases he
    | false =>
      simp [partA] at he
      obtain ⟨_, v, hv, hr⟩ := hcs 0 y (by rw [← List.head?_eq_getElem?]; exact he)
      refine ⟨v, ?_, hr⟩
      simp only [Nat.add_zero] at hv
      simp [Instr.loadAt, Instr.sureAddr, loadVar, run_isAgg hag, hv]
  · cases he
def fieldOff (P : Program) (s : TypeId) (f : Nat) : Option Nat :=
  match P.underlying s with
  | some (.struct fs) => match fs[f]? with
    | some fd => match sizeT P fd.type with
      | some (_ + 1) => some fd.offset
      | _ => none
    | none => none
  | _ => none
def ptrAdd : AV → Nat → Option AV
  | .own a off, k => some (.own a (off + k))
  | .oel a g i off, k => some (.oel a g i (off + k))
  | .pro cs, k => some (.pro (cs.drop k))
  | _, _ => none
theorem ptrAdd_sound {x y : AV} {c : Value} {k : Nat} (hx : VR ι ψ x c) (he : ptrAdd x k = some y) : ∃ ad, c = .pointer (some ad) ∧ VR ι ψ y (.pointer (some (ad.add k))) := by
  cases hx with
  | own a off pl h =>
    simp [ptrAdd] at he; subst he
    exact ⟨_, rfl, by rw [Addr.add_lit]; exact .own a _ pl h⟩
  | oel a g i off ad pl h hg hs =>
    simp [ptrAdd] at he; subst he
    refine ⟨_, rfl, .oel a g i _ _ pl h hg fun e => ?_⟩
    obtain ⟨b, hb, rfl⟩ := hs e
    exact ⟨b, hb, by rw [Addr.add_lit, Nat.add_assoc]⟩
  | pro cs b o cv h1 h2 =>
    simp [ptrAdd] at he; subst he
    refine ⟨_, rfl, ?_⟩
    rw [Addr.add_lit]
    refine .pro _ b (o + k) (fun j => cv (k + j)) (fun j x e => ?_) (fun j x e => ?_)
    · rw [List.getElem?_drop] at e
      rw [Nat.add_assoc]; exact h1 _ _ e
    · rw [List.getElem?_drop] at e
      exact h2 _ _ e
  | _ => simp [ptrAdd] at he
def fieldA (P : Program) (s : TypeId) (x : AV) (f : Nat) : Option AV :=
  match fieldOff P s f with
  | some k => ptrAdd x k
  | none => none
theorem fieldA_sound {s : TypeId} {x y : AV} {c : Value} {f : Nat} (hx : VR ι ψ x c) (he : fieldA P s x f = some y) : ∃ cv, (Instr.fieldAt s c f).run P w = .ok cv w ∧ VR ι ψ y cv := by
  unfold fieldA at he
  split at he
  · next k hk =>
    obtain ⟨ad, rfl, hr⟩ := ptrAdd_sound hx he
    unfold fieldOff at hk
    split at hk
    · next fs hu =>
      split at hk
      · next fd hfd =>
        split at hk
        · next n hn =>
          simp at hk; subst hk
          exact ⟨_, by simp [Instr.fieldAt, run_underlying hu, hfd, Instr.sureAddr, fieldPlace, run_sizeOf hn], hr⟩
        · cases hk
      · cases hk
    · cases hk
  · cases he
theorem part_sound {t : TypeId} {ag : Bool} {n : Nat} (hag : aggT P t = some ag) (hn : sizeT P t = some n) {cs : List AV} {vs : Array Value} (hl : cs.length = vs.size)
    (h : ∀ (j : Nat) (x : AV), cs[j]? = some x → ∃ v, vs[j]? = some v ∧ VR ι ψ x v) (off : Nat) {y : AV} (he : partA ag n (cs.drop off) = some y) :
    ∃ cv, (part t vs off).run P w = .ok cv w ∧ VR ι ψ y cv := by
  cases ag with
  | true =>
    simp only [partA, if_true] at he
    split at he
    · next hle =>
      simp at he; subst he
      simp only [List.length_drop] at hle
      refine ⟨.agg (vs.extract off (off + n)), by simp [part, run_isAgg hag, run_sizeOf hn], .agg _ _ ?_ fun j x v h1 h2 => ?_⟩
      · simp only [List.length_take, List.length_drop, Array.size_extract]; omega
      · rw [List.getElem?_take] at h1
        split at h1
        · rw [List.getElem?_drop] at h1
          obtain ⟨v', hv', hr⟩ := h _ x h1
          rw [Array.getElem?_extract] at h2
          split at h2
          · rw [hv'] at h2; cases h2; exact hr
          · cases h2
        · cases h1
    · cases he
  | false =>
    simp [partA, List.head?_drop] at he
    obtain ⟨v, hv, hr⟩ := h off y he
    exact ⟨v, by simp [part, run_isAgg hag, hv], hr⟩
def fieldV (P : Program) (t : TypeId) (x : AV) (f : Nat) : Option AV :=
  match P.underlying t, x with
  | some (.struct fs), .agg cs => match fs[f]? with
    | some fd => match aggT P fd.type, sizeT P fd.type with
      | some ag, some n => partA ag n (cs.drop fd.offset)
      | _, _ => none
    | none => none
  | _, _ => none
theorem fieldV_sound {t : TypeId} {x y : AV} {c : Value} {f : Nat} (hx : VR ι ψ x c) (he : fieldV P t x f = some y) : ∃ cv, (Instr.field t c f).run P w = .ok cv w ∧ VR ι ψ y cv := by
  unfold fieldV at he
  split at he
  · next fs cs hu =>
    split at he
    · next fd hfd =>
      split at he
      · next ag n hag hn =>
        obtain ⟨vs, rfl, hl, hv⟩ := hx.agg_inv
        obtain ⟨cv, hr, hy⟩ := part_sound (w := w) hag hn hl hv fd.offset he
        exact ⟨cv, by simp [Instr.field, run_underlying hu, hfd, asAgg, hr], hy⟩
      · cases he
    · cases he
  · cases he
def indexV (P : Program) (t : TypeId) (x ix : AV) : Option AV :=
  match P.underlying t, x, ix with
  | some .string, .str s, .int _ i => if 0 ≤ i then (s[i.toNat]?).map (fun b => .int .u8 b.toNat) else none
  | some (.array len e), .agg cs, .int _ i => if 0 ≤ i ∧ i < len then (match aggT P e, sizeT P e with
    | some ag, some n => partA ag n (cs.drop (i.toNat * n))
    | _, _ => none) else none
  | _, _, _ => none
theorem indexV_sound {t : TypeId} {x ix y : AV} {c d : Value} (hx : VR ι ψ x c) (hi : VR ι ψ ix d) (he : indexV P t x ix = some y) : ∃ cv, (Instr.index t c d).run P w = .ok cv w ∧ VR ι ψ y cv := by
  unfold indexV at he
  split at he
  · next s k i hu =>
    obtain rfl := hx.str_inv
    obtain rfl := hi.int_inv
    split at he
    · next h0 =>
      cases hs : s[i.toNat]? with
      | none => simp [hs] at he
      | some b =>
        simp [hs] at he; subst he
        refine ⟨_, ?_, .int _ _⟩
        have hb : (⟨s.toArray⟩ : ByteArray)[i.toNat]? = some b := by
          have hlt := (List.getElem?_eq_some_iff.1 hs).1
          have hlt' : i.toNat < (⟨s.toArray⟩ : ByteArray).size := by simpa [ByteArray.size] using hlt
          rw [ByteArray.getElem?_lt' _ _ hlt']
          have := (List.getElem?_eq_some_iff.1 hs).2
          simp [ByteArray.getElem_eq_getElem_data, this]
        simp [Instr.index, asIntOf, run_underlying hu, h0, hb]
    · cases he
  · next len e cs k i hu =>
    obtain ⟨vs, rfl, hl, hv⟩ := hx.agg_inv
    obtain rfl := hi.int_inv
    split at he
    · next h0 =>
      split at he
      · next ag n hag hn =>
        obtain ⟨cv, hr, hy⟩ := part_sound (w := w) hag hn hl hv _ he
        exact ⟨cv, by simp [Instr.index, asIntOf, run_underlying hu, h0, run_sizeOf hn, hr], hy⟩
      · cases he
    · cases he
  · cases he
def indexP (P : Program) (S : List Blk) (t : TypeId) (x ix : AV) : Option AV :=
  match P.underlying t, x, ix with
  | some (.slice e), .sval _ els, .int _ i => if 0 ≤ i then (match els[i.toNat]? with
    | some el => if sizeT P e = some el.cells.length then some (.pro el.cells) else none
    | none => none) else none
  | some (.slice e), .sown a g n, .int _ i => if 0 ≤ i ∧ i < n then (match S[a]? with
    | some (.arr _ sz _ g' els) => if g = g' ∧ n = els.length ∧ sizeT P e = some sz then some (.oel a g i.toNat 0) else none
    | _ => none) else none
  | some (.array len e), x, .int _ i => if 0 ≤ i ∧ i < len then (match sizeT P e with
    | some n => ptrAdd x (i.toNat * n)
    | none => none) else none
  | _, _, _ => none
theorem indexP_sound (h : Rel w0 ι ψ S w) {t : TypeId} {x ix y : AV} {c d : Value} (hx : VR ι ψ x c) (hi : VR ι ψ ix d) (he : indexP P S t x ix = some y) : ∃ cv, (Instr.indexAt t c d).run P w = .ok cv w ∧ VR ι ψ y cv := by
  unfold indexP at he
  split at he
  · next e full els k i hu =>
    obtain rfl := hi.int_inv
    split at he
    · next h0 =>
      split at he
      · next el hel =>
        split at he
        · next hse =>
          simp at he; subst he
          have hlt := (List.getElem?_eq_some_iff.1 hel).1
          cases hx with
          | sval sz _ _ b o cap cv hsz hcap hf h1 h2 =>
            have hs := hsz _ _ hel
            rw [hs] at hse
            refine ⟨.pointer (some ⟨b, o + i.toNat * sz, none⟩), ?_, .pro _ _ _ (fun j => cv i.toNat j) (fun j x e => h1 _ _ _ _ hel e) (fun j x e => h2 _ _ _ _ hel e)⟩
            have hb : 0 ≤ i ∧ i < (els.length : Int) := ⟨h0, by omega⟩
            simp [Instr.indexAt, asIntOf, run_underlying hu, run_sizeOf hse, hb, Addr.add_lit]
          | svnil => simp at hel
          | sve => simp at hel
        · cases he
      · cases he
    · cases he
  · next e a g n k i hu =>
    obtain rfl := hi.int_inv
    split at he
    · next h0 =>
      split at he
      · next e' sz fz g' els hS =>
        split at he
        · next hg =>
          obtain ⟨rfl, rfl, hsz⟩ := hg
          simp at he; subst he
          cases hx with
          | sown _ _ _ ad cap pl hpl hgl hs =>
            obtain ⟨⟨hgen, hpsz⟩, _, _, _, ⟨xs, hown, hxs⟩, _⟩ := h.blk a _ pl hS hpl
            have hsv := hs hgen.symm
            rcases hown.2 with ⟨hn, hn0⟩ | ⟨b, cap', cur, hv, hb, hgg, _⟩
            · omega
            · rw [hv] at hsv
              cases hsv
              refine ⟨.pointer (some ⟨b, 0 + i.toNat * sz, none⟩), ?_, .oel a g _ 0 _ pl hpl hgl fun _ => ⟨b, by rw [hv]; rfl, by rw [hpsz]; simp⟩⟩
              simp [Instr.indexAt, asIntOf, run_underlying hu, run_sizeOf hsz, h0, Addr.add_lit]
        · cases he
      · cases he
    · cases he
  · next len e x k i hu =>
    obtain rfl := hi.int_inv
    split at he
    · next h0 =>
      split at he
      · next n hn =>
        obtain ⟨ad, rfl, hr⟩ := ptrAdd_sound hx he
        exact ⟨_, by simp [Instr.indexAt, asIntOf, run_underlying hu, Instr.sureAddr, run_sizeOf hn, h0], hr⟩
      · cases he
    · cases he
  · cases he
end Go.Fen
namespace Go.Fen
open Go.RowKit
variable {P : Program} {w0 w w' : World} {ι : List Pl} {ψ : Psi} {S : List Blk}
def OptR (ι : List Pl) (ψ : Psi) : Option AV → Option Value → Prop
  | none, none => True
  | some x, some c => VR ι ψ x c
  | _, _ => False
def bndA (x : Option AV) (dflt y : Nat) : Option Nat :=
  match x with
  | none => some dflt
  | some (.int _ i) => if 0 ≤ i ∧ i ≤ (y : Int) then some i.toNat else none
  | _ => none
theorem bnd_sound {x : Option AV} {c : Option Value} {dflt y z : Nat} {n : Nat} (hx : OptR ι ψ x c) (hy : y ≤ z) (h : bndA x dflt y = some n) :
    (c = none ∧ x = none ∧ n = dflt) ∨ (∃ k i, c = some (.int k i) ∧ n ≤ y ∧ ∀ (code : BoundsCode) (w : World), (Instr.sliceBound (.int k i) z code).run P w = .ok n w) := by
  cases x with
  | none =>
    cases c with
    | none => simp [bndA] at h; exact .inl ⟨rfl, rfl, h.symm⟩
    | some c => exact hx.elim
  | some x =>
    cases c with
    | none => exact hx.elim
    | some c =>
      cases x <;> simp [bndA] at h
      next k i =>
      obtain ⟨⟨h0, h1⟩, rfl⟩ := h
      have := VR.int_inv hx
      subst this
      have h2 : i ≤ (z : Int) := by omega
      refine .inr ⟨_, _, rfl, by omega, fun code w => ?_⟩
      simp [Instr.sliceBound, asIntOf, h0, h2]
def sliceA (P : Program) (t : TypeId) (x : AV) (lo hi mx : Option AV) : Option AV :=
  match P.underlying t, x, mx with
  | some .string, .str s, none =>
    match bndA hi s.length s.length with
    | some h => match bndA lo 0 h with
      | some l => some (.str ((s.take h).drop l))
      | none => none
    | none => none
  | some (.slice e), .sval full els, none =>
    match sizeT P e with
    | some n => if els.all (fun el => el.cells.length == n) = true then
      match bndA hi els.length els.length with
      | some h => match bndA lo 0 h with
        | some l => some (.sval (full && h == els.length) ((els.take h).drop l))
        | none => none
      | none => none
      else none
    | none => none
  | some (.slice e), .sval _ els, some m =>
    match sizeT P e with
    | some n => if els.all (fun el => el.cells.length == n) = true ∧ hi.isSome = true then
      match bndA (some m) 0 els.length with
      | some m => match bndA hi 0 m with
        | some h => match bndA lo 0 h with
          | some l => some (.sval (h == m) ((els.take h).drop l))
          | none => none
        | none => none
      | none => none
      else none
    | none => none
  | some (.array n e), .pro cs, none => if sizeT P e = some 1 ∧ cs.length = n ∧ cs.all AV.leaf = true ∧ lo.isNone = true ∧ hi.isNone = true then some (.sval true cs) else none
  | _, _, _ => none
theorem bounds_none {lo hi : Option AV} {clo chi : Option Value} {len cap y h l : Nat} (b : Bool) (hlo : OptR ι ψ lo clo) (hhi : OptR ι ψ hi chi) (hy : y ≤ cap)
    (h1 : bndA hi len y = some h) (h2 : bndA lo 0 h = some l) : (Instr.sliceBounds b len cap clo chi none).run P w = .ok (l, h, cap) w := by
  rcases bnd_sound (P := P) hhi hy h1 with ⟨rfl, _, rfl⟩ | ⟨k, i, rfl, _, hr⟩ <;> rcases bnd_sound (P := P) hlo (Nat.le_refl _) h2 with ⟨rfl, _, rfl⟩ | ⟨k', i', rfl, _, hr'⟩ <;>
    cases b <;> simp_all [Instr.sliceBounds]
theorem bounds_some {m' : AV} {lo hi : Option AV} {clo chi : Option Value} {cm : Value} {len cap y m h l : Nat} (b : Bool) (hlo : OptR ι ψ lo clo) (hhi : OptR ι ψ hi chi) (hs : hi.isSome = true) (hm : VR ι ψ m' cm) (hy : y ≤ cap)
    (h0 : bndA (some m') 0 y = some m) (h1 : bndA hi 0 m = some h) (h2 : bndA lo 0 h = some l) : (Instr.sliceBounds b len cap clo chi (some cm)).run P w = .ok (l, h, m) w := by
  have hm' : OptR ι ψ (some m') (some cm) := hm
  rcases bnd_sound (P := P) hm' hy h0 with ⟨hc, _⟩ | ⟨k0, i0, hc, _, hr0⟩
  · cases hc
  · cases hc
    rcases bnd_sound (P := P) hhi (Nat.le_refl _) h1 with ⟨rfl, hn, rfl⟩ | ⟨k, i, rfl, _, hr⟩
    · rw [hn] at hs; cases hs
    · rcases bnd_sound (P := P) hlo (Nat.le_refl _) h2 with ⟨rfl, _, rfl⟩ | ⟨k', i', rfl, _, hr'⟩ <;>
      cases b <;> simp_all [Instr.sliceBounds]
theorem bnd_le {x : Option AV} {dflt y n : Nat} (h : bndA x dflt y = some n) : n = dflt ∨ n ≤ y := by
  unfold bndA at h
  split at h
  · simp at h; exact .inl h.symm
  · split at h
    · simp at h; right; omega
    · cases h
  · cases h
theorem VR.part {n : Nat} {full : Bool} {els : List AV} {a : Option Addr} {len cap l h m : Nat} {f' : Bool} (hx : VR ι ψ (.sval full els) (.slice a len cap)) (hn : els.all (fun el => el.cells.length == n) = true) (hl : l ≤ h) (hh : h ≤ els.length) (hm : h ≤ m) (hmc : m ≤ cap) (hf : f' = true → m = h) :
    VR ι ψ (.sval f' ((els.take h).drop l)) (.slice (if m = l then a else a.map (·.add (l * n))) (h - l) (m - l)) := by
  cases hx with
  | svnil =>
    simp only [List.length_nil] at hh
    have h0 : m = 0 := by omega
    have h1 : l = 0 := by omega
    have h2 : h = 0 := by omega
    subst h0 h1 h2
    simpa using VR.svnil f'
  | sve _ ad _ hf0 =>
    simp only [List.length_nil] at hh
    have h1 : l = 0 := by omega
    have h2 : h = 0 := by omega
    subst h1 h2
    have key := fun ad => VR.sve (ι := ι) (ψ := ψ) f' ad m hf
    by_cases hm0 : m = 0 <;> simpa [hm0] using key _
  | sval sz _ _ b o _ cv hsz hcap hf0 h1 h2 =>
    have hlen : ((els.take h).drop l).length = h - l := by simp; omega
    have hget : ∀ (i : Nat) (e : AV), ((els.take h).drop l)[i]? = some e → els[l + i]? = some e := by
      intro i e he
      rw [List.getElem?_drop, List.getElem?_take] at he
      split at he
      · exact he
      · cases he
    by_cases hml : m = l
    · have h0 : h - l = 0 := by omega
      have hnil : (els.take h).drop l = [] := List.eq_nil_of_length_eq_zero (by omega)
      rw [if_pos hml, hnil, h0]
      have := VR.sval (ι := ι) (ψ := ψ) n f' [] b o (m - l) (fun _ _ => undef) (by simp) (by simp) (fun e => by have := hf e; simp; omega) (by simp) (by simp)
      simpa using this
    · rw [if_neg hml]
      simp only [Option.map_some, Addr.add_lit]
      by_cases hnil : (els.take h).drop l = []
      · rw [hnil]
        have h0 : h - l = 0 := by rw [← hlen, hnil]; rfl
        rw [h0]
        have := VR.sval (ι := ι) (ψ := ψ) n f' [] b (o + l * n) (m - l) (fun _ _ => undef) (by simp) (by simp) (fun e => by have := hf e; simp; omega) (by simp) (by simp)
        simpa using this
      · have hnsz : n = sz := by
          cases hc : (els.take h).drop l with
          | nil => exact absurd hc hnil
          | cons e r =>
            have he := hget 0 e (by rw [hc]; rfl)
            have h3 := hsz _ e he
            have h4 := List.all_eq_true.1 hn e (List.mem_of_getElem? he)
            simp at h4; omega
        subst hnsz
        rw [← hlen]
        refine .sval n f' _ b (o + l * n) (m - l) (fun i j => cv (l + i) j) (fun i e he => hsz _ e (hget i e he)) (by omega) (fun e => by have := hf e; omega) (fun i e j x he hj => ?_) (fun i e j x he hj => h2 _ e j x (hget i e he) hj)
        have := h1 _ e j x (hget i e he) hj
        rw [show o + l * n + i * n + j = o + (l + i) * n + j by rw [Nat.add_mul]; omega]
        exact this
theorem VR.sval_len {full : Bool} {els : List AV} {c : Value} (hx : VR ι ψ (.sval full els) c) : ∃ a cap, c = .slice a els.length cap ∧ els.length ≤ cap ∧ (full = true → cap = els.length) := by
  cases hx with
  | svnil => exact ⟨none, 0, rfl, Nat.le_refl _, fun _ => rfl⟩
  | sve _ ad cap hf => exact ⟨some ad, cap, rfl, Nat.zero_le _, hf⟩
  | sval sz _ _ b o cap cv hsz hcap hf0 h1 h2 => exact ⟨_, cap, rfl, hcap, hf0⟩
theorem sliceA_sound {t : TypeId} {x y : AV} {c : Value} {lo hi mx : Option AV} {clo chi cmx : Option Value} (hx : VR ι ψ x c) (hlo : OptR ι ψ lo clo) (hhi : OptR ι ψ hi chi) (hmx : OptR ι ψ mx cmx)
    (he : sliceA P t x lo hi mx = some y) : ∃ cv, (Instr.sliceAt t c clo chi cmx).run P w = .ok cv w ∧ VR ι ψ y cv := by
  unfold sliceA at he
  split at he
  · next s hu =>
    obtain rfl := hx.str_inv
    cases cmx with
    | some c => exact hmx.elim
    | none =>
      split at he
      · next h hh =>
        split at he
        · next l hl =>
          simp at he; subst he
          have hb := bounds_none (P := P) (w := w) false hlo hhi (Nat.le_refl s.length) hh hl
          refine ⟨_, by simp [Instr.sliceAt, Instr.slice, run_underlying hu, hb, ByteArray.size_mk']; rfl, ?_⟩
          refine .str _ _ ?_
          simp [ByteArray.data_extract, List.drop_take]
        · cases he
      · cases he
  · next e full els hu =>
    cases cmx with
    | some c => exact hmx.elim
    | none =>
      split at he
      · next n hse =>
        split at he
        · next hall =>
          split at he
          · next h hh =>
            split at he
            · next l hl =>
              simp at he; subst he
              obtain ⟨a, cap, rfl, hcap, hf⟩ := hx.sval_len
              have hb := bounds_none (P := P) (w := w) (len := els.length) true hlo hhi hcap hh hl
              have h1' : h ≤ els.length := by rcases bnd_le hh with rfl | h <;> omega
              have h2' : l ≤ h := by rcases bnd_le hl with rfl | h <;> omega
              refine ⟨_, by simp [Instr.sliceAt, Instr.slice, run_underlying hu, hb, run_sizeOf hse]; rfl, ?_⟩
              refine VR.part hx hall h2' h1' (by omega) (Nat.le_refl _) (fun e => ?_)
              simp at e
              rw [hf e.1, e.2]
            · cases he
          · cases he
        · cases he
      · cases he
  · next e full els m hu =>
    cases cmx with
    | none => exact hmx.elim
    | some cm =>
      split at he
      · next n hse =>
        split at he
        · next hall =>
          split at he
          · next m' hm =>
            split at he
            · next h hh =>
              split at he
              · next l hl =>
                simp at he; subst he
                obtain ⟨a, cap, rfl, hcap, hf⟩ := hx.sval_len
                have hb := bounds_some (P := P) (w := w) (len := els.length) true hlo hhi hall.2 hmx hcap hm hh hl
                have h0' : m' ≤ els.length := by rcases bnd_le hm with rfl | h <;> omega
                have h1' : h ≤ m' := by rcases bnd_le hh with rfl | h <;> omega
                have h2' : l ≤ h := by rcases bnd_le hl with rfl | h <;> omega
                refine ⟨_, by simp [Instr.sliceAt, Instr.slice, run_underlying hu, hb, run_sizeOf hse]; rfl, ?_⟩
                exact VR.part hx hall.1 h2' (by omega) h1' (by omega) (fun e => by simp at e; omega)
              · cases he
            · cases he
          · cases he
        · cases he
      · cases he
  · next n e cs hu =>
    cases cmx with
    | some c => exact hmx.elim
    | none =>
      split at he
      · next hall =>
        obtain ⟨hs, hl, hlf, hlo0, hhi0⟩ := hall
        obtain rfl : lo = none := by simpa using hlo0
        obtain rfl : hi = none := by simpa using hhi0
        obtain rfl : clo = none := by cases clo with
          | none => rfl
          | some c => exact hlo.elim
        obtain rfl : chi = none := by cases chi with
          | none => rfl
          | some c => exact hhi.elim
        simp at he; subst he
        cases hx with
        | pro _ b off cv h1 h2 =>
          have hres : (Instr.sliceAt t (.pointer (some ⟨b, off, none⟩)) none none none).run P w = .ok (.slice (some ⟨b, off, none⟩) n n) w := by
            by_cases hn : n = 0
            · subst hn
              simp [Instr.sliceAt, Instr.sureAddr, run_underlying hu, Instr.sliceBounds, run_sizeOf hs]
            · simp [Instr.sliceAt, Instr.sureAddr, run_underlying hu, Instr.sliceBounds, run_sizeOf hs, hn, Addr.add_lit]
          refine ⟨_, hres, ?_⟩
          have hc1 : ∀ (i : Nat) (y z : AV) (j : Nat), cs[i]? = some y → y.cells[j]? = some z → j = 0 ∧ z = y := by
            intro i y z j hy hz
            have hyl := List.all_eq_true.1 hlf y (List.mem_of_getElem? hy)
            have : y.cells = [y] := by cases y <;> first | rfl | cases hyl
            rw [this] at hz
            cases j with
            | zero => exact ⟨rfl, by simpa using hz.symm⟩
            | succ j => simp at hz
          rw [← hl]
          refine .sval 1 true cs b off cs.length (fun i _ => cv i) (fun i y hy => ?_) (Nat.le_refl _) (fun _ => rfl) (fun i y j z hy hz => ?_) (fun i y j z hy hz => ?_)
          · have hyl := List.all_eq_true.1 hlf y (List.mem_of_getElem? hy)
            cases y <;> first | rfl | cases hyl
          · obtain ⟨rfl, rfl⟩ := hc1 i y z j hy hz
            have := h1 i z hy
            rw [Nat.mul_one, Nat.add_zero]
            exact this
          · obtain ⟨rfl, rfl⟩ := hc1 i y z j hy hz
            exact h2 i z hy
      · cases he
  · cases he
def intBinA (op : BinOp) (k : IntKind) (a b : Int) : Option AV :=
  match op with
  | .add => some (.int k (k.wrap (a + b)))
  | .sub => some (.int k (k.wrap (a - b)))
  | .mul => some (.int k (k.wrap (a * b)))
  | .quo => if b = 0 then none else some (.int k (k.wrap (a.tdiv b)))
  | .rem => if b = 0 then none else some (.int k (a.tmod b))
  | .and => some (.int k (k.wrap ((BitVec.ofInt k.bits a &&& BitVec.ofInt k.bits b).toNat)))
  | .or => some (.int k (k.wrap ((BitVec.ofInt k.bits a ||| BitVec.ofInt k.bits b).toNat)))
  | .xor => some (.int k (k.wrap ((BitVec.ofInt k.bits a ^^^ BitVec.ofInt k.bits b).toNat)))
  | .andNot => some (.int k (k.wrap ((BitVec.ofInt k.bits a &&& ~~~ BitVec.ofInt k.bits b).toNat)))
  | .eql => some (.bool (a == b))
  | .neq => some (.bool (a != b))
  | .lss => some (.bool (decide (a < b)))
  | .leq => some (.bool (decide (a ≤ b)))
  | .gtr => some (.bool (decide (b < a)))
  | .geq => some (.bool (decide (b ≤ a)))
  | _ => none
def strBinA (op : BinOp) (a b : List UInt8) : Option AV :=
  match op with
  | .add => if a.length + b.length ≤ 9223372036854775807 then some (.str (a ++ b)) else none
  | .eql => some (.bool (a == b))
  | .neq => some (.bool (!(a == b)))
  | .lss => some (.bool (Op.bytesLess a b))
  | .leq => some (.bool (Op.bytesLess a b || a == b))
  | .gtr => some (.bool (!(Op.bytesLess a b || a == b)))
  | .geq => some (.bool (!(Op.bytesLess a b)))
  | _ => none
def shiftA (op : BinOp) (k : IntKind) (a b : Int) : Option AV :=
  if b < 0 then none else
  match op with
  | .shl => some (.int k (k.wrap (a * 2 ^ (min b.toNat k.bits))))
  | .shr => some (.int k (a.fdiv (2 ^ (min b.toNat k.bits))))
  | _ => none
def eqFsA (eq : TypeId → AV → AV → Option Bool) (P : Program) (xs ys : List AV) : List Field → Option Bool
  | [] => some true
  | f :: fs =>
    if f.name = "_" then eqFsA eq P xs ys fs else
    match aggT P f.type, sizeT P f.type with
    | some ag, some n => match partA ag n (xs.drop f.offset), partA ag n (ys.drop f.offset) with
      | some a, some b => match eq f.type a b, eqFsA eq P xs ys fs with
        | some b1, some b2 => some (b1 && b2)
        | _, _ => none
      | _, _ => none
    | _, _ => none
def eqT (P : Program) : Nat → TypeId → AV → AV → Option Bool
  | 0, _, _, _ => none
  | d + 1, t, x, y =>
    match P.underlying t, x, y with
    | some .bool, .bool a, .bool b => some (a == b)
    | some (.int _), .int k a, .int k' b => if k = k' then some (a == b) else none
    | some .string, .str a, .str b => some (a == b)
    | some (.struct fs), .agg xs, .agg ys => if P.stoodInHeld t then none else eqFsA (eqT P d) P xs ys fs.toList
    | _, _, _ => none
theorem eqT_sound : ∀ (d : Nat) (t : TypeId) (x y : AV) (c e : Value) (r : Bool), VR ι ψ x c → VR ι ψ y e → eqT P d t x y = some r → ∀ (k : Nat) (w : World), (Op.equalIn (d + k) t c e).run P w = .ok r w := by
  intro d
  induction d with
  | zero => intro t x y c e r _ _ h; simp [eqT] at h
  | succ d ih =>
    intro t x y c e r hx hy h k w
    rw [show d + 1 + k = (d + k) + 1 by omega]
    simp only [eqT] at h
    split at h
    · next a b hu =>
      obtain rfl := hx.bool_inv; obtain rfl := hy.bool_inv
      simp at h; subst h
      exact run_equalIn_bool w _ t a b hu
    · next k1 k2 a k3 b hu =>
      obtain rfl := hx.int_inv; obtain rfl := hy.int_inv
      split at h
      · next hk =>
        subst hk
        simp at h; subst h
        exact run_equalIn_int w _ t k2 k1 a b hu
      · cases h
    · next a b hu =>
      obtain rfl := hx.str_inv; obtain rfl := hy.str_inv
      simp at h; subst h
      rw [run_equalIn_string w _ t _ _ hu]; simp
    · next fs xs ys hu =>
      obtain ⟨vx, rfl, hlx, hvx⟩ := hx.agg_inv
      obtain ⟨vy, rfl, hly, hvy⟩ := hy.agg_inv
      split at h
      · cases h
      · next hp =>
        have hfs : P.fieldsOf t = fs := by simp [Program.fieldsOf, hu]
        rw [run_equalIn_struct w _ t vx vy (by rw [hfs]; exact hu) (by simpa using hp), hfs]
        clear hfs hu
        generalize fs.toList = l at h
        induction l generalizing w with
        | nil => simp [eqFsA] at h; subst h; simp [Op.eqFields]
        | cons f fs ihl =>
          simp only [eqFsA] at h
          simp only [Op.eqFields]
          by_cases hn : f.name = "_"
          · rw [if_pos hn] at h
            simp only [hn, ne_eq, not_true_eq_false, if_false]
            exact ihl w h
          · rw [if_neg hn] at h
            simp only [ne_eq, hn, not_false_eq_true, if_true]
            split at h
            · next ag n hag hsn =>
              split at h
              · next a b ha hb =>
                obtain ⟨ca, hra, hva⟩ := part_sound (P := P) (w := w) hag hsn hlx hvx _ ha
                obtain ⟨cb, hrb, hvb⟩ := part_sound (P := P) (w := w) hag hsn hly hvy _ hb
                simp only [Sem.run_bind, hra, hrb, Result.andThen_ok]
                split at h
                · next b1 b2 he h2 =>
                  rw [ih _ _ _ _ _ _ hva hvb he k w]
                  simp at h
                  subst h
                  cases b1 with
                  | true => simpa using ihl w h2
                  | false => simp
                · cases h
              · cases h
            · cases h
    · cases h
end Go.Fen
namespace Go.Fen
open Go.RowKit
variable {P : Program} {w0 w w' : World} {ι : List Pl} {ψ : Psi} {S : List Blk}
def isConst : Operand → Bool
  | .const _ => true
  | _ => false
def eqA (P : Program) (t : TypeId) (ox oy : Operand) (x y : AV) : Option Bool :=
  match P.underlying t, x, y with
  | some .bool, .bool a, .bool b => some (a == b)
  | some (.struct _), .agg xs, .agg ys => if P.eqGuardType P.depth t = false then eqT P 9 t (.agg xs) (.agg ys) else none
  | some (.slice _), .snil, .snil => some true
  | some (.slice _), .sval _ (_ :: _), .snil => some false
  | some (.pointer _), .nilp, .nilp => some true
  | some (.pointer _), .own .., .nilp | some (.pointer _), .pro .., .nilp | some (.pointer _), .nilp, .own .. | some (.pointer _), .nilp, .pro .. => some false
  | some (.map _ _), .mnil, .mnil => some true
  | some (.map _ _), .mval .., .mnil | some (.map _ _), .mown .., .mnil => some false
  | some (.func _ _ _), .fnil, .fnil => some true
  | some (.func _ _ _), .fn .., .fnil => some false
  | some (.interface ms), .inil, .inil => if isConst ox || isConst oy || ms.isEmpty then some true else none
  | some (.interface _), .ifc .., .inil | some (.interface _), .inil, .ifc .. => some false
  | some (.interface _), .ifc t1 v1, .ifc t2 v2 => if t1 = t2 then (match P.info? t1 with
    | some i => if i.comparable = true then eqT P 9 t1 v1 v2 else none
    | none => none) else some false
  | _, _, _ => none
def ptrEq (P : Program) (t : TypeId) (x y : AV) : Option Bool :=
  match P.underlying t, x, y with
  | some (.pointer e), .own a o, .own b p => if a = b ∧ o = p ∧ (P.info? e).isSome = true then some true else none
  | _, _, _ => none
def binA (P : Program) (op : BinOp) (t : TypeId) (ox oy : Operand) (x y : AV) : Option AV :=
  match x, y with
  | .int k a, .int k' b =>
    if op = .shl ∨ op = .shr then shiftA op k a b else if k = k' then intBinA op k a b else none
  | .str a, .str b => strBinA op a b
  | _, _ => match op with
    | .eql => ((eqA P t ox oy x y).orElse fun _ => ptrEq P t x y).map .bool
    | .neq => ((eqA P t ox oy x y).orElse fun _ => ptrEq P t x y).map (fun b => .bool (!b))
    | _ => none
def GuardOk (P : Program) (op : BinOp) (t : TypeId) (ox oy : Operand) (c d : Value) (w : World) : Prop := (eqGuard op t ox oy c d).run P w = .ok () w
theorem guard_plain {op : BinOp} {t : TypeId} {ox oy : Operand} {c d : Value} (h1 : ¬ (c = .nilIface ∧ d = .nilIface)) (h2 : ∀ a b, ¬ (c = .agg a ∧ d = .agg b)) : GuardOk P op t ox oy c d w := by
  unfold GuardOk eqGuard
  cases c <;> cases d <;> first | exact absurd ⟨rfl, rfl⟩ h1 | exact absurd ⟨rfl, rfl⟩ (h2 _ _) | (simp; done) | (cases op <;> simp; done)
theorem guard_other {op : BinOp} {t : TypeId} {ox oy : Operand} {c d : Value} (h : op ≠ .eql ∧ op ≠ .neq) : GuardOk P op t ox oy c d w := by
  unfold GuardOk eqGuard
  cases op <;> simp_all
theorem shift_sound {op : BinOp} {k k' : IntKind} {a b : Int} {t : TypeId} {y : AV} (hop : op = .shl ∨ op = .shr) (h : shiftA op k a b = some y) : ∃ cv, (binOp op t (.int k a) (.int k' b)).run P w = .ok cv w ∧ VR ι ψ y cv := by
  unfold shiftA at h
  split at h
  · cases h
  · next hb =>
    rcases hop with rfl | rfl <;> simp at h <;> subst h <;> exact ⟨_, by simp [binOp_shl, binOp_shr, Op.shift, hb], .int _ _⟩
theorem intBin_sound {op : BinOp} {k : IntKind} {a b : Int} {t : TypeId} {y : AV} (hop : ¬ (op = .shl ∨ op = .shr)) (h : intBinA op k a b = some y) : ∃ cv, (binOp op t (.int k a) (.int k b)).run P w = .ok cv w ∧ VR ι ψ y cv := by
  cases op <;> simp [intBinA] at h <;> (try (obtain ⟨h0, h⟩ := h)) <;> (try subst h) <;>
    first
    | exact ⟨_, by simp [binOp, Op.intArith, Op.intDiv, Op.intBits, Op.intCmp, *]; rfl, by constructor⟩
    | exact ⟨_, by simp [binOp, Op.intArith, Op.intDiv, Op.intBits, Op.intCmp, *], by constructor⟩
    | simp at hop
theorem strBin_sound {op : BinOp} {a b : List UInt8} {t : TypeId} {y : AV} (h : strBinA op a b = some y) : ∃ cv, (binOp op t (.string ⟨a.toArray⟩) (.string ⟨b.toArray⟩)).run P w = .ok cv w ∧ VR ι ψ y cv := by
  cases op <;> simp [strBinA] at h <;> (try (obtain ⟨h0, h⟩ := h)) <;> (try subst h) <;>
    first
    | (refine ⟨.bool _, ?_, .bool _⟩; simp [binOp, Op.stringOp]; done)
    | (refine ⟨.string (⟨a.toArray⟩ ++ ⟨b.toArray⟩), ?_, ?_⟩
       · rw [binOp_string_add, run_string_add_sum _ _ _ (by simpa [ByteArray.size_mk'] using h0)]
       · rw [ByteArray.mk_append_mk]; exact .str' _)
def plainPair : Value → Value → Bool
  | .int .., .int .. | .float .., .float .. | .complex .., .complex .. | .string .., .string .. => false
  | _, _ => true
theorem binOp_eql_plain {c d : Value} (h : plainPair c d = true) (t : TypeId) : binOp .eql t c d = (do pure (.bool (← Op.equal t c d))) := by
  cases c <;> cases d <;> first | rfl | (simp [plainPair] at h)
theorem binOp_neq_plain {c d : Value} (h : plainPair c d = true) (t : TypeId) : binOp .neq t c d = (do pure (.bool (!(← Op.equal t c d)))) := by
  cases c <;> cases d <;> first | rfl | (simp [plainPair] at h)
theorem eqA_sound {op : BinOp} {t : TypeId} {ox oy : Operand} {x y : AV} {c d : Value} {b : Bool} (hx : VR ι ψ x c) (hy : VR ι ψ y d) (h : eqA P t ox oy x y = some b) :
    (Op.equal t c d).run P w = .ok b w ∧ GuardOk P op t ox oy c d w ∧ plainPair c d = true := by
  unfold eqA at h
  split at h
  · next a a' hu =>
    obtain rfl := hx.bool_inv; obtain rfl := hy.bool_inv
    simp at h; subst h
    exact ⟨run_equal_bool w t a a' hu, guard_plain (by simp) (by simp), rfl⟩
  · next fs xs ys hu =>
    split at h
    · next hg =>
      have he := eqT_sound 9 t _ _ c d b hx hy h 9991 w
      obtain ⟨vx, rfl, _⟩ := hx.agg_inv; obtain ⟨vy, rfl, _⟩ := hy.agg_inv
      refine ⟨he, ?_, rfl⟩
      by_cases hop : op = .eql ∨ op = .neq
      · exact run_eqGuard_agg w op t ox oy vx vy hg
      · exact guard_other (by simpa using hop)
    · cases h
  case h_15 ms hu =>
    split at h
    · next hcst =>
      simp at h; subst h
      cases hx; cases hy
      refine ⟨(fun n => by simp [Op.equalIn, run_underlying hu] : ∀ n, (Op.equalIn (n + 1) t .nilIface .nilIface).run P w = .ok true w) 9999, ?_, rfl⟩
      unfold GuardOk eqGuard
      simp only [Bool.or_eq_true] at hcst
      rcases hcst with (hcst | hcst) | hcst
      · cases ox <;> simp [isConst] at hcst
        cases op <;> simp
      · cases oy <;> simp [isConst] at hcst
        cases op <;> simp
      · have hz : ms.isEmpty = true := hcst
        cases op <;> (first | (simp; done) | (have hk := (fun n => by simp [Op.eqGuardIn, run_underlying hu, hz] : ∀ n, (Op.eqGuardIn (n + 1) t .nilIface .nilIface).run P w = .ok false w) 9999; simp [show Op.maxDepth = 9999 + 1 from rfl, hk]))
    · cases h
  case h_18 ms t1 v1 t2 v2 hu =>
    cases hx with
    | ifc _ _ c hc =>
    cases hy with
    | ifc _ _ d hd =>
    refine ⟨?_, guard_plain (by simp) (by simp), rfl⟩
    split at h
    · next ht =>
      subst ht
      split at h
      · next i hi =>
        split at h
        · next hcmp =>
          have he := eqT_sound 9 t1 _ _ c d b hc hd h 9990 w
          refine (fun n hn => by simp [Op.equalIn, run_underlying hu, typeInfo, hi, hcmp, hn] : ∀ n, (Op.equalIn n t1 c d).run P w = .ok b w → (Op.equalIn (n + 1) t (.iface t1 c) (.iface t1 d)).run P w = .ok b w) 9999 he
        · cases h
      · cases h
    · next ht =>
      simp at h; subst h
      exact (fun n => by simp [Op.equalIn, run_underlying hu, ht] : ∀ n, (Op.equalIn (n + 1) t (.iface t1 c) (.iface t2 d)).run P w = .ok false w) 9999
  all_goals first
    | (cases h; done)
    | (next hu => simp at h; subst h; cases hx; cases hy; exact ⟨(fun n => by simp [Op.equalIn, run_underlying hu] : ∀ n, (Op.equalIn (n + 1) t _ _).run P w = .ok _ w) 9999, guard_plain (by simp) (by simp), rfl⟩)
theorem ptrEq_sound {op : BinOp} {t : TypeId} {ox oy : Operand} {x y : AV} {c d : Value} {b : Bool} (hx : VR ι ψ x c) (hy : VR ι ψ y d) (h : ptrEq P t x y = some b) :
    (Op.equal t c d).run P w = .ok b w ∧ GuardOk P op t ox oy c d w ∧ plainPair c d = true := by
  unfold ptrEq at h
  split at h
  · next e a o b' p hu =>
    split at h
    · next hc =>
      obtain ⟨rfl, rfl, hi⟩ := hc
      simp at h; subst h
      obtain ⟨j, hj⟩ := Option.isSome_iff_exists.1 hi
      cases hx with
      | own _ _ pl hpl =>
        cases hy with
        | own _ _ pl' hpl' =>
          rw [hpl] at hpl'; cases hpl'
          refine ⟨(fun n => by simp [Op.equalIn, run_underlying hu, sizeOf, typeInfo, hj, run_sameAddr_same] : ∀ n, (Op.equalIn (n + 1) t _ _).run P w = .ok true w) 9999, guard_plain (by simp) (by simp), rfl⟩
    · cases h
  · cases h
theorem eqP_sound {op : BinOp} {t : TypeId} {ox oy : Operand} {x y : AV} {c d : Value} {b : Bool} (hx : VR ι ψ x c) (hy : VR ι ψ y d) (h : ((eqA P t ox oy x y).orElse fun _ => ptrEq P t x y) = some b) :
    (Op.equal t c d).run P w = .ok b w ∧ GuardOk P op t ox oy c d w ∧ plainPair c d = true := by
  cases he : eqA P t ox oy x y with
  | none => rw [he] at h; exact ptrEq_sound hx hy (by simpa using h)
  | some b' => rw [he] at h; simp at h; subst h; exact eqA_sound hx hy he
theorem binA_sound {op : BinOp} {t : TypeId} {ox oy : Operand} {x y r : AV} {c d : Value} (hx : VR ι ψ x c) (hy : VR ι ψ y d) (h : binA P op t ox oy x y = some r) :
    ∃ cv, (do eqGuard op t ox oy c d; binOp op t c d : Sem Value).run P w = .ok cv w ∧ VR ι ψ r cv := by
  unfold binA at h
  split at h
  · next k a k' b =>
    obtain rfl := hx.int_inv; obtain rfl := hy.int_inv
    have hg : GuardOk P op t ox oy (.int k a) (.int k' b) w := guard_plain (by simp) (by simp)
    split at h
    · next hop =>
      obtain ⟨cv, hr, hv⟩ := shift_sound (P := P) (w := w) (ι := ι) (ψ := ψ) (k' := k') (t := t) hop h
      exact ⟨cv, by rw [Sem.run_bind, hg]; exact hr, hv⟩
    · next hop =>
      split at h
      · next hk =>
        subst hk
        obtain ⟨cv, hr, hv⟩ := intBin_sound (P := P) (w := w) (ι := ι) (ψ := ψ) (t := t) hop h
        exact ⟨cv, by rw [Sem.run_bind, hg]; exact hr, hv⟩
      · cases h
  · next a b =>
    obtain rfl := hx.str_inv; obtain rfl := hy.str_inv
    have hg : GuardOk P op t ox oy (.string ⟨a.toArray⟩) (.string ⟨b.toArray⟩) w := guard_plain (by simp) (by simp)
    obtain ⟨cv, hr, hv⟩ := strBin_sound (P := P) (w := w) (ι := ι) (ψ := ψ) (t := t) h
    exact ⟨cv, by rw [Sem.run_bind, hg]; exact hr, hv⟩
  · split at h
    · cases he : ((eqA P t ox oy x y).orElse fun _ => ptrEq P t x y) with
      | none => rw [he] at h; simp at h
      | some b =>
        rw [he] at h; simp at h; subst h
        obtain ⟨hr, hg, hp⟩ := eqP_sound (P := P) (w := w) (op := .eql) hx hy he
        refine ⟨.bool b, ?_, .bool b⟩
        rw [Sem.run_bind, hg, binOp_eql_plain hp]
        simp [hr]
    · cases he : ((eqA P t ox oy x y).orElse fun _ => ptrEq P t x y) with
      | none => rw [he] at h; simp at h
      | some b =>
        rw [he] at h; simp at h; subst h
        obtain ⟨hr, hg, hp⟩ := eqP_sound (P := P) (w := w) (op := .neq) hx hy he
        refine ⟨.bool (!b), ?_, .bool _⟩
        rw [Sem.run_bind, hg, binOp_neq_plain hp]
        simp [hr]
    · cases h
def unA (op : UnOp) (x : AV) : Option AV :=
  match op, x with
  | .not, .bool b => some (.bool (!b))
  | .neg, .int k n => some (.int k (k.wrap (0 - n)))
  | .xor, .int k n => intBinA .xor k (if k.signed then -1 else k.max) n
  | _, _ => none
theorem unA_sound {op : UnOp} {x r : AV} {c : Value} (hx : VR ι ψ x c) (h : unA op x = some r) : ∃ cv, (Op.unary op c).run P w = .ok cv w ∧ VR ι ψ r cv := by
  unfold unA at h
  split at h
  · obtain rfl := hx.bool_inv
    simp at h; subst h
    exact ⟨_, rfl, .bool _⟩
  · obtain rfl := hx.int_inv
    simp only [Option.some.injEq] at h; subst h
    exact ⟨_, rfl, .int _ _⟩
  · obtain rfl := hx.int_inv
    simp [intBinA] at h; subst h
    exact ⟨_, by rw [unary_xor]; simp [Op.intBits], .int _ _⟩
  · cases h
def isU8 (P : Program) (e : TypeId) : Bool :=
  match P.underlying e with
  | some (.int .u8) => true
  | _ => false
theorem isU8_spec {e : TypeId} (h : isU8 P e = true) : P.underlying e = some (.int .u8) := by
  unfold isU8 at h
  split at h
  · assumption
  · cases h
def bytesOf : List AV → Option (List UInt8)
  | [] => some []
  | .int .u8 n :: r => (bytesOf r).map (UInt8.ofNat n.toNat :: ·)
  | _ => none
def liesOk (P : Program) (T : TypeId) (n : Nat) : Bool :=
  (match P.info? T with
  | some i => i.size != 0
  | none => false) && liesAt P P.depth T (n / P.cellsOf T) 0 T 1 && decide (0 < n)
def rbL : List Value → Option (List UInt8)
  | [] => some []
  | .int .u8 n :: r => (rbL r).map (UInt8.ofNat n.toNat :: ·)
  | _ => none
def rowBytes (c : Array Value) (n : Nat) : Option (List UInt8) := if n ≤ c.size then rbL (c.toList.take n) else none
def convA (P : Program) (S : List Blk) (src dst : TypeId) (x : AV) : Option AV :=
  match P.underlying src, P.underlying dst, x with
  | some _, some (.int k), .int _ n => some (.int k (k.wrap n))
  | some .string, some .string, .str s => some (.str s)
  | some (.slice e), some .string, .sval _ els => if isU8 P e then (bytesOf els).map .str else none
  | some (.slice e), some .string, .snil => if isU8 P e then some (.str []) else none
  | some (.slice e), some .string, .sown a g n => if isU8 P e then (match S[a]? with
    | some (.arr _ 1 _ g' els) => if g = g' ∧ n = els.length then (bytesOf els).map .str else none
    | some (.obj (.cells c _ _)) => if g = 0 then (rowBytes c n).map .str else none
    | _ => none) else none
  | some (.pointer t), some .unsafePointer, .own a 0 => match S[a]? with
    | some (.cells cs (some T)) => if t = T ∧ liesOk P T cs.length = true then some (.own a 0) else none
    | _ => none
  | some .unsafePointer, some (.pointer t), .own a 0 => match S[a]? with
    | some (.cells cs (some T)) => if t = T ∧ liesOk P T cs.length = true then some (.own a 0) else none
    | _ => none
  | _, _, _ => none
theorem bytesOf_spec : ∀ (els : List AV) (s : List UInt8), bytesOf els = some s → ∃ ns : List Int, els = ns.map (AV.int .u8) ∧ s = ns.map (fun n => UInt8.ofNat n.toNat)
  | [], s, h => ⟨[], rfl, by simp [bytesOf] at h; exact h⟩
  | x :: r, s, h => by
    unfold bytesOf at h
    split at h
    · simp at *
    · next n r' heq =>
      cases heq
      cases hr : bytesOf r with
      | none => simp [hr] at h
      | some s' =>
        simp [hr] at h; subst h
        obtain ⟨ns, rfl, rfl⟩ := bytesOf_spec r s' hr
        exact ⟨n :: ns, rfl, rfl⟩
    · cases h
theorem rbL_spec : ∀ (vs : List Value) (s : List UInt8), rbL vs = some s → ∃ ns : List Int, vs = ns.map (Value.int .u8) ∧ s = ns.map (fun n => UInt8.ofNat n.toNat)
  | [], s, h => ⟨[], rfl, by simp [rbL] at h; exact h⟩
  | x :: r, s, h => by
    unfold rbL at h
    split at h
    · next e => cases e
    · next n r' e =>
      cases e
      cases hr : rbL r with
      | none => rw [hr] at h; cases h
      | some s' =>
        rw [hr] at h
        cases h
        obtain ⟨ns, rfl, rfl⟩ := rbL_spec r s' hr
        exact ⟨n :: ns, rfl, rfl⟩
    · cases h
theorem foldl_push (ns : List Int) (b : ByteArray) : ns.foldl (fun r n => r.push (UInt8.ofNat n.toNat)) b = ⟨b.data ++ (ns.map (fun n => UInt8.ofNat n.toNat)).toArray⟩ := by
  induction ns generalizing b with
  | nil => simp
  | cons n ns ih => simp only [List.foldl_cons, ih]; simp [ByteArray.push]
theorem bytes_run {ad : Addr} (hsp : ad.spot = none) {ns : List Int} {cap : Nat} (h : ∀ (j : Nat) (n : Int), ns[j]? = some n → w.cell? ⟨ad.block, ad.off + j, none⟩ = some (.int .u8 n)) :
    (Conv.bytesToString (.slice (some ad) ns.length cap)).run P w = .ok (.string ⟨(ns.map (fun n => UInt8.ofNat n.toNat)).toArray⟩) w := by
  obtain ⟨b, o, sp⟩ := ad
  simp only at hsp h
  subst hsp
  have hl := run_loadCells_list (P := P) w ⟨b, o, none⟩ (ns.map (Value.int .u8)) (fun j v hv => by
    simp only [List.getElem?_map] at hv
    cases hn : ns[j]? with
    | none => simp [hn] at hv
    | some n => simp [hn] at hv; subst hv; rw [Addr.add_lit]; exact h j n hn)
  rw [List.length_map] at hl
  rw [run_bytesToString w ⟨b, o, none⟩ ns.length cap ns hl, foldl_push]
  simp [ByteArray.empty, ByteArray.emptyWithCapacity]
  rfl
theorem convA_sound (h : Rel w0 ι ψ S w) {src dst : TypeId} {x r : AV} {c : Value} (hx : VR ι ψ x c) (he : convA P S src dst x = some r) : ∃ cv, (convert src dst c).run P w = .ok cv w ∧ VR ι ψ r cv := by
  unfold convA at he
  split at he
  · next d k k' n hs hd =>
    obtain rfl := hx.int_inv
    simp at he; subst he
    exact ⟨_, by simp [convert, run_underlying hs, run_underlying hd, Conv.intToInt], .int _ _⟩
  · next s hs hd =>
    have hx' := hx
    obtain rfl := hx.str_inv
    simp at he; subst he
    exact ⟨_, by simp [convert, run_underlying hs, run_underlying hd], hx'⟩
  · next e full els hs hd =>
    split at he
    · next hu =>
      have hu := isU8_spec hu
      cases hb : bytesOf els with
      | none => simp [hb] at he
      | some s =>
        simp [hb] at he; subst he
        obtain ⟨ns, rfl, rfl⟩ := bytesOf_spec _ _ hb
        generalize hE : ns.map (AV.int .u8) = els at hx
        cases hx with
        | svnil =>
          have : ns = [] := by simpa using hE
          subst this
          refine ⟨_, by rw [run_convert_bytes_string w src dst e _ _ _ hs hu hd]; simp [Conv.bytesToString]; rfl, ?_⟩
          exact .str _ _ (by simp [ByteArray.empty, ByteArray.emptyWithCapacity]; rfl)
        | sve _ ad cap hf =>
          have : ns = [] := by simpa using hE
          subst this
          refine ⟨_, by rw [run_convert_bytes_string w src dst e _ _ _ hs hu hd]; simp [Conv.bytesToString]; rfl, ?_⟩
          exact .str _ _ (by simp [ByteArray.empty, ByteArray.emptyWithCapacity]; rfl)
        | sval sz _ _ b o cap cv hsz hcap hf h1 h2 =>
          subst hE
          have hs1 : ∀ (j : Nat) (n : Int), ns[j]? = some n → sz = 1 := fun j n hn => by have := hsz j (.int .u8 n) (by simp [hn]); simpa [AV.cells] using this.symm
          refine ⟨_, ?_, .str' _⟩
          rw [run_convert_bytes_string w src dst e _ _ _ hs hu hd]
          rw [show (List.map (AV.int IntKind.u8) ns).length = ns.length by simp]
          refine bytes_run (ad := ⟨b, o, none⟩) rfl fun j n hn => ?_
          have g1 := h1 j (.int .u8 n) 0 (.int .u8 n) (by simp [hn]) rfl
          have g2 := h2 j (.int .u8 n) 0 (.int .u8 n) (by simp [hn]) rfl
          have := h.psi _ _ _ g1.2
          rw [g2.int_inv, hs1 j n hn] at this
          simpa using this
    · cases he
  · next e hs hd =>
    split at he
    · next hu =>
      have hu := isU8_spec hu
      simp at he; subst he
      cases hx with
      | snil =>
        refine ⟨_, by rw [run_convert_bytes_string w src dst e _ _ _ hs hu hd]; simp [Conv.bytesToString]; rfl, ?_⟩
        exact .str _ _ (by simp [ByteArray.empty, ByteArray.emptyWithCapacity]; rfl)
    · cases he
  · next e a g n hs hd =>
    split at he
    · next hu =>
      have hu := isU8_spec hu
      split at he
      · next e' fz g' els hS =>
        split at he
        · next hg =>
          obtain ⟨rfl, rfl⟩ := hg
          cases hb : bytesOf els with
          | none => simp [hb] at he
          | some s =>
            simp [hb] at he; subst he
            obtain ⟨ns, rfl, rfl⟩ := bytesOf_spec _ _ hb
            cases hx with
            | sown _ _ _ ad cap pl hpl hgl hs' =>
              obtain ⟨⟨hgen, hpsz⟩, hsz, _, _, ⟨xs, hown, hxs⟩, _⟩ := h.blk a _ pl hS hpl
              have hsv := hs' hgen.symm
              rw [run_convert_bytes_string w src dst e _ _ _ hs hu hd]
              have hlen : (List.map (AV.int IntKind.u8) ns).length = ns.length := by simp
              rcases hown.2 with ⟨hn, hn0⟩ | ⟨b, cap', cur, hv, hb', hgg, _⟩
              · rw [hn] at hsv
                simp only [Value.slice.injEq] at hsv
                obtain ⟨rfl, h0, rfl⟩ := hsv
                have : ns = [] := List.eq_nil_of_length_eq_zero (by omega)
                subst this
                refine ⟨_, by simp [Conv.bytesToString]; rfl, ?_⟩
                exact .str _ _ (by simp [ByteArray.empty, ByteArray.emptyWithCapacity]; rfl)
              · rw [hv] at hsv
                simp only [Value.slice.injEq] at hsv
                obtain ⟨rfl, _, rfl⟩ := hsv
                rw [hlen]
                refine ⟨_, bytes_run (ad := ⟨b, 0, none⟩) rfl fun j n hn => ?_, .str' _⟩
                have hf : (flat (ns.map (AV.int .u8)))[j]? = some (.int .u8 n) := by
                  have := flat_get (els := ns.map (AV.int .u8)) (sz := 1) (by simp [AV.cells]) (i := j) (j := 0) (e := .int .u8 n) (x := .int .u8 n) (by simp [hn]) rfl
                  simpa using this
                obtain ⟨_, v, hv', hr, _⟩ := hxs j _ hf
                rw [hr.int_inv] at hv'
                have := hown.cells (g := b) (by rw [hv]; rfl) j _ hv'
                rw [Addr.add_lit] at this
                exact this
        · cases he
      · next c e' fz hS =>
        split at he
        · next hg =>
          subst hg
          unfold rowBytes at he
          split at he
          · next hle =>
            cases hb : rbL (c.toList.take n) with
            | none => simp [hb] at he
            | some s =>
              simp [hb] at he; subst he
              obtain ⟨ns, hns, rfl⟩ := rbL_spec _ _ hb
              cases hx with
              | sown _ _ _ ad cap pl hpl hgl hs' =>
                obtain ⟨h0, h1, hok, h3, h4⟩ := h.blk a _ pl hS hpl
                obtain ⟨hg0, hs1, n', cap', hsv⟩ := hok rfl
                have hq := hs' hg0.symm
                rw [hsv] at hq
                cases hq
                have hl : ns.length = n := by
                  have := congrArg List.length hns
                  simp at this
                  omega
                rw [run_convert_bytes_string w src dst e _ _ _ hs hu hd]
                have hbr := bytes_run (P := P) (w := w) (ad := ⟨pl.blk, 0, none⟩) (cap := cap) rfl (ns := ns) (fun j m hm => by
                  have hj := (List.getElem?_eq_some_iff.1 hm).1
                  have h5 : (c.toList.take n)[j]? = some (.int .u8 m) := by rw [hns, List.getElem?_map, hm]; rfl
                  rw [List.getElem?_take, if_pos (by omega), Array.getElem?_toList] at h5
                  simp [World.cell?, h1, h5])
                rw [hl] at hbr
                exact ⟨_, hbr, .str' _⟩
          · cases he
        · cases he
      · cases he
    · cases he
  · next t a hs hd =>
    split at he
    · next cs T hS =>
      split at he
      · next hc =>
        obtain ⟨rfl, hl⟩ := hc
        simp at he; subst he
        have hx0 := hx
        cases hx with
        | own _ _ pl hpl =>
          obtain ⟨h0, ⟨c, T', h1, h2, h3⟩, h4, h5⟩ := h.blk a _ pl hS hpl
          obtain ⟨c2, hc2⟩ := h5 t rfl
          rw [h1] at hc2; cases hc2
          unfold liesOk at hl
          simp only [Bool.and_eq_true, decide_eq_true_eq] at hl
          cases hi : P.info? t with
          | none => rw [hi] at hl; simp at hl
          | some i =>
            rw [hi] at hl
            have hsh : w.shape? pl.blk = some (t, cs.length) := by simp [World.shape?, h1, h2]
            exact ⟨_, Lib.run_to_unsafe w ⟨pl.blk, 0, none⟩ hs hd hi (by simpa using hl.1.1) hsh hl.2, hx0⟩
      · cases he
    · cases he
  · next t a hs hd =>
    split at he
    · next cs T hS =>
      split at he
      · next hc =>
        obtain ⟨rfl, hl⟩ := hc
        simp at he; subst he
        have hx0 := hx
        cases hx with
        | own _ _ pl hpl =>
          obtain ⟨h0, ⟨c, T', h1, h2, h3⟩, h4, h5⟩ := h.blk a _ pl hS hpl
          obtain ⟨c2, hc2⟩ := h5 t rfl
          rw [h1] at hc2; cases hc2
          unfold liesOk at hl
          simp only [Bool.and_eq_true, decide_eq_true_eq] at hl
          cases hi : P.info? t with
          | none => rw [hi] at hl; simp at hl
          | some i =>
            rw [hi] at hl
            have hsh : w.shape? pl.blk = some (t, cs.length) := by simp [World.shape?, h1, h2]
            exact ⟨_, Lib.run_from_unsafe w ⟨pl.blk, 0, none⟩ hs hd hi hsh hl.1.2, hx0⟩
      · cases he
    · cases he
  · cases he
def lenA (P : Program) (t : TypeId) (x : AV) : Option AV :=
  match P.underlying t, x with
  | some .string, .str s => some (.int .i64 s.length)
  | some (.array n _), _ => some (.int .i64 n)
  | some (.slice _), .snil => some (.int .i64 0)
  | some (.slice _), .sval _ els => some (.int .i64 els.length)
  | some (.slice _), .sown _ _ n => some (.int .i64 n)
  | some (.map _ _), .mnil => some (.int .i64 0)
  | some (.map _ _), .mval es => some (.int .i64 es.length)
  | _, _ => none
theorem lenA_sound (h : Rel w0 ι ψ S w) {t ty : TypeId} {x r : AV} {c : Value} (hx : VR ι ψ x c) (he : lenA P t x = some r) : ∃ cv, (Builtin.len_ #[t] ty #[c]).run P w = .ok cv w ∧ VR ι ψ r cv := by
  unfold lenA at he
  split at he
  · next s hu =>
    obtain rfl := hx.str_inv
    simp at he; subst he
    exact ⟨_, by simp [Builtin.len_, run_underlying hu, goInt, ByteArray.size_mk'], .int _ _⟩
  · next n e hu =>
    simp at he; subst he
    exact ⟨_, by simp [Builtin.len_, run_underlying hu, goInt], .int _ _⟩
  · next e hu =>
    simp at he; subst he
    cases hx
    exact ⟨_, by simp [Builtin.len_, run_underlying hu, goInt], .int _ _⟩
  · next e f els hu =>
    simp at he; subst he
    obtain ⟨a, cap, rfl, _⟩ := hx.sval_len
    exact ⟨_, by simp [Builtin.len_, run_underlying hu, goInt], .int _ _⟩
  · next e a g n hu =>
    simp at he; subst he
    cases hx
    exact ⟨_, by simp [Builtin.len_, run_underlying hu, goInt], .int _ _⟩
  · next k e hu =>
    simp at he; subst he
    cases hx
    exact ⟨_, by simp [Builtin.len_, run_underlying hu, goInt], .int _ _⟩
  · next k e es hu =>
    simp at he; subst he
    cases hx with
    | mval _ l b ck me hb hp hl hn h1 h2 =>
      obtain ⟨hck, _⟩ := h.psim b me ck hb
      refine ⟨.int .i64 me.size, ?_, by rw [← hp.length_eq, hl]; exact .int _ _⟩
      simp [Builtin.len_, run_underlying hu, goInt, getObj, Sem.run, hck]
  · cases he
end Go.Fen
namespace Go.Fen
open Go.RowKit Go.MapKept
variable {P : Program} {w0 w w' : World} {ι : List Pl} {ψ : Psi} {S : List Blk}
def keyB (P : Program) (kt : TypeId) (k : AV) : Bool :=
  match P.underlying kt, k with
  | some (.int j), .int j' _ => decide (j' = j)
  | some .string, .str _ => true
  | some .bool, .bool _ => true
  | _, _ => false
def keyFs (P : Program) : List Field → Nat → List AV → Bool
  | [], _, [] => true
  | f :: fs, i, x :: xs => (f.name != "_") && (decide (f.offset = i) && (keyB P f.type x && (decide (sizeT P f.type = some 1) && keyFs P fs (i + 1) xs)))
  | _, _, _ => false
def keyA (P : Program) (kt : TypeId) (k : AV) : Bool := keyB P kt k || (match P.underlying kt, k with
  | some (.struct fs), .agg cs => !P.stoodInHeld kt && keyFs P fs.toList 0 cs
  | _, _ => false)
def keq0 (x y : AV) : Bool :=
  match x, y with
  | .int _ a, .int _ b => a == b
  | .str a, .str b => a == b
  | .bool a, .bool b => a == b
  | _, _ => false
def keqL : List AV → List AV → Bool
  | [], [] => true
  | x :: xs, y :: ys => keq0 x y && keqL xs ys
  | _, _ => false
def keq (x y : AV) : Bool :=
  match x, y with
  | .agg a, .agg b => keqL a b
  | x, y => keq0 x y
theorem keq0_iff {kt : TypeId} {x y : AV} (hx : keyB P kt x = true) (hy : keyB P kt y = true) : keq0 x y = true ↔ x = y := by
  unfold keyB at hx hy
  cases hu : P.underlying kt with
  | none => simp [hu] at hx
  | some d =>
    simp only [hu] at hx hy
    cases d <;> cases x <;> simp at hx <;> cases y <;> simp at hy <;> simp_all [keq0]
theorem keqL_iff : ∀ {fs : List Field} {i : Nat} {a b : List AV}, keyFs P fs i a = true → keyFs P fs i b = true → (keqL a b = true ↔ a = b)
  | [], _, [], [], _, _ => by simp [keqL]
  | [], _, _ :: _, _, h, _ => by simp [keyFs] at h
  | [], _, [], _ :: _, _, h => by simp [keyFs] at h
  | f :: fs, i, [], _, h, _ => by simp [keyFs] at h
  | f :: fs, i, _ :: _, [], _, h => by simp [keyFs] at h
  | f :: fs, i, x :: a, y :: b, h, h' => by
    simp only [keyFs, Bool.and_eq_true] at h h'
    simp only [keqL, Bool.and_eq_true, keq0_iff h.2.2.1 h'.2.2.1, keqL_iff h.2.2.2.2 h'.2.2.2.2, List.cons.injEq]
theorem keyB_noagg {kt : TypeId} {x : AV} (h : keyB P kt x = true) : keq x = keq0 x ∧ ∀ fs, P.underlying kt ≠ some (.struct fs) := by
  unfold keyB at h
  refine ⟨?_, fun fs e => ?_⟩
  · funext y
    cases hu : P.underlying kt with
    | none => simp [hu] at h
    | some d => simp only [hu] at h; cases d <;> cases x <;> simp at h <;> rfl
  · rw [e] at h
    cases x <;> simp at h
theorem keyA_cases {kt : TypeId} {x : AV} (h : keyA P kt x = true) : keyB P kt x = true ∨ ∃ fs cs, P.underlying kt = some (.struct fs) ∧ x = .agg cs ∧ P.stoodInHeld kt = false ∧ keyFs P fs.toList 0 cs = true := by
  unfold keyA at h
  rw [Bool.or_eq_true] at h
  rcases h with h | h
  · exact .inl h
  · split at h
    · next fs cs hu =>
      simp only [Bool.and_eq_true, Bool.not_eq_true'] at h
      exact .inr ⟨fs, cs, hu, rfl, h.1, h.2⟩
    · cases h
theorem keq_iff {kt : TypeId} {x y : AV} (hx : keyA P kt x = true) (hy : keyA P kt y = true) : keq x y = true ↔ x = y := by
  rcases keyA_cases hx with h | ⟨fs, cs, hu, rfl, _, h⟩
  · obtain ⟨e, hn⟩ := keyB_noagg h
    rcases keyA_cases hy with h' | ⟨fs, _, hu, _⟩
    · rw [e]; exact keq0_iff h h'
    · exact absurd hu (hn fs)
  · rcases keyA_cases hy with h' | ⟨fs', cs', hu', rfl, _, h'⟩
    · exact absurd hu ((keyB_noagg h').2 fs)
    · rw [hu] at hu'; cases hu'
      show keqL cs cs' = true ↔ _
      rw [keqL_iff h h']; simp
theorem key_value {kt : TypeId} {d : TypeDesc} {x : AV} {c : Value} (hd : P.underlying kt = some d) (hx : keyB P kt x = true) (h : VR ι ψ x c) : IsKey d c := by
  unfold keyB at hx
  rw [hd] at hx
  cases d <;> cases x <;> simp at hx <;> cases h <;> simp_all [IsKey]
theorem key_same0 {kt : TypeId} {x y : AV} {c e : Value} (hx : keyB P kt x = true) (hy : keyB P kt y = true) (h : VR ι ψ x c) (h' : VR ι ψ y e) : c = e ↔ x = y := by
  unfold keyB at hx hy
  cases hu : P.underlying kt with
  | none => simp [hu] at hx
  | some d =>
    simp only [hu] at hx hy
    cases d <;> cases x <;> simp at hx <;> cases y <;> simp at hy
    · rw [h.bool_inv, h'.bool_inv]; simp
    · rw [h.int_inv, h'.int_inv]; simp
    · rw [h.str_inv, h'.str_inv]; simp
theorem key_sameL : ∀ {fs : List Field} {i : Nat} {a b : List AV} {u v : List Value}, keyFs P fs i a = true → keyFs P fs i b = true → a.length = u.length → b.length = v.length →
    (∀ (j : Nat) (x : AV) (c : Value), a[j]? = some x → u[j]? = some c → VR ι ψ x c) → (∀ (j : Nat) (x : AV) (c : Value), b[j]? = some x → v[j]? = some c → VR ι ψ x c) → (u = v ↔ a = b)
  | [], _, [], [], u, v, _, _, h1, h2, _, _ => by
    have e1 : u = [] := List.eq_nil_of_length_eq_zero h1.symm
    have e2 : v = [] := List.eq_nil_of_length_eq_zero h2.symm
    simp [e1, e2]
  | [], _, _ :: _, _, _, _, h, _, _, _, _, _ => by simp [keyFs] at h
  | [], _, [], _ :: _, _, _, _, h, _, _, _, _ => by simp [keyFs] at h
  | f :: fs, i, [], _, _, _, h, _, _, _, _, _ => by simp [keyFs] at h
  | f :: fs, i, _ :: _, [], _, _, _, h, _, _, _, _ => by simp [keyFs] at h
  | f :: fs, i, x :: a, y :: b, [], _, _, _, h, _, _, _ => by simp at h
  | f :: fs, i, x :: a, y :: b, _ :: _, [], _, _, _, h, _, _ => by simp at h
  | f :: fs, i, x :: a, y :: b, c :: u, e :: v, h, h', h1, h2, h3, h4 => by
    simp only [keyFs, Bool.and_eq_true] at h h'
    have q := key_same0 h.2.2.1 h'.2.2.1 (h3 0 x c rfl rfl) (h4 0 y e rfl rfl)
    have r := key_sameL h.2.2.2.2 h'.2.2.2.2 (by simpa using h1) (by simpa using h2) (fun j z w hz hw => h3 (j + 1) z w (by simpa using hz) (by simpa using hw)) (fun j z w hz hw => h4 (j + 1) z w (by simpa using hz) (by simpa using hw))
    simp only [List.cons.injEq, q, r]
theorem key_same {kt : TypeId} {x y : AV} {c e : Value} (hx : keyA P kt x = true) (hy : keyA P kt y = true) (h : VR ι ψ x c) (h' : VR ι ψ y e) : c = e ↔ x = y := by
  rcases keyA_cases hx with k | ⟨fs, cs, hu, rfl, _, k⟩
  · rcases keyA_cases hy with k' | ⟨fs, _, hu, _⟩
    · exact key_same0 k k' h h'
    · exact absurd hu ((keyB_noagg k).2 fs)
  · rcases keyA_cases hy with k' | ⟨fs', cs', hu', rfl, _, k'⟩
    · exact absurd hu ((keyB_noagg k').2 fs)
    · rw [hu] at hu'; cases hu'
      cases h with
      | agg _ vs hl hv =>
        cases h' with
        | agg _ vs' hl' hv' =>
          have := key_sameL k k' (u := vs.toList) (v := vs'.toList) (by simpa using hl) (by simpa using hl') (fun j z w hz hw => hv j z w hz (by simpa using hw)) (fun j z w hz hw => hv' j z w hz (by simpa using hw))
          simp only [Value.agg.injEq, AV.agg.injEq, ← this]
          exact ⟨fun e => by rw [e], fun e => Array.toList_inj.1 e⟩
def findA (P : Program) (kt : TypeId) (k : AV) (es : List (AV × AV)) : Option (Option AV) :=
  if (keyA P kt k && es.all fun e => keyA P kt e.1) = true then some ((es.find? fun e => keq k e.1).map Prod.snd) else none
theorem eqFs_key : ∀ {fs : List Field} {i : Nat} {a b pa pb : List AV}, keyFs P fs i a = true → keyFs P fs i b = true → pa.length = i → pb.length = i → eqFsA (eqT P 1) P (pa ++ a) (pb ++ b) fs = some (keqL a b)
  | [], _, [], [], _, _, _, _, _, _ => rfl
  | [], _, _ :: _, _, _, _, h, _, _, _ => by simp [keyFs] at h
  | [], _, [], _ :: _, _, _, _, h, _, _ => by simp [keyFs] at h
  | f :: fs, i, [], _, _, _, h, _, _, _ => by simp [keyFs] at h
  | f :: fs, i, _ :: _, [], _, _, _, h, _, _ => by simp [keyFs] at h
  | f :: fs, i, x :: a, y :: b, pa, pb, h, h', h1, h2 => by
    simp only [keyFs, Bool.and_eq_true, bne_iff_ne, ne_eq, decide_eq_true_eq] at h h'
    obtain ⟨q1, q2, q3, q4, q5⟩ := h
    obtain ⟨_, _, r3, _, r5⟩ := h'
    have hrc := eqFs_key (pa := pa ++ [x]) (pb := pb ++ [y]) q5 r5 (by simp [h1]) (by simp [h2])
    simp only [List.append_assoc, List.cons_append, List.nil_append] at hrc
    have hag : aggT P f.type = some false := by
      unfold aggT
      unfold keyB at q3
      cases hu : P.underlying f.type with
      | none => simp [hu] at q3
      | some d => simp only [hu] at q3; cases d <;> cases x <;> simp at q3 <;> rfl
    have hd1 : (pa ++ x :: a).drop f.offset = x :: a := by rw [q2, ← h1]; simp
    have hd2 : (pb ++ y :: b).drop f.offset = y :: b := by rw [q2, ← h2]; simp
    have he : eqT P 1 f.type x y = some (keq0 x y) := by
      unfold keyB at q3 r3
      simp only [eqT]
      cases hu : P.underlying f.type with
      | none => simp [hu] at q3
      | some d =>
        simp only [hu] at q3 r3
        cases d <;> cases x <;> simp at q3 <;> cases y <;> simp at r3 <;> simp_all [keq0]
    simp only [eqFsA, q1, if_false, hag, q4, hd1, hd2, partA, Bool.false_eq_true, List.head?_cons, he, hrc]
    rfl
theorem key_equal {kt : TypeId} {fs : Array Field} {a b : List AV} {c e : Value} (hu : P.underlying kt = some (.struct fs)) (hst : P.stoodInHeld kt = false) (ha : keyFs P fs.toList 0 a = true) (hb : keyFs P fs.toList 0 b = true) (h : VR ι ψ (.agg a) c) (h' : VR ι ψ (.agg b) e) (w : World) : (Op.equal kt c e).run P w = .ok (keqL a b) w := by
  have := eqFs_key (pa := []) (pb := []) ha hb rfl rfl
  have he : eqT P 2 kt (.agg a) (.agg b) = some (keqL a b) := by
    simp only [eqT, hu, hst, Bool.false_eq_true, if_false]
    exact this
  exact eqT_sound 2 kt _ _ c e _ h h' he 9998 w
theorem find_ask {kt : TypeId} {k : AV} {c : Value} (hq : ∀ (x : AV) (e : Value), keyA P kt x = true → VR ι ψ x e → ∀ w, (Op.equal kt c e).run P w = .ok (keq k x) w) : ∀ (me : List MapEntry) (l : List (AV × AV)) (i : Nat), EntR ι ψ l me → (∀ e ∈ l, keyA P kt e.1 = true) →
    ((∀ e ∈ l, keq k e.1 = false) ∧ ∀ w, (Instr.findAsking kt c me i).run P w = .ok none w) ∨ ∃ j e m, l[j]? = some e ∧ me[j]? = some m ∧ keq k e.1 = true ∧ ∀ w, (Instr.findAsking kt c me i).run P w = .ok (some (i + j, m.val)) w
  | [], l, i, he, hl => by
    have : l = [] := List.eq_nil_of_length_eq_zero he.1
    subst this
    exact .inl ⟨by simp, fun w => rfl⟩
  | m :: me, [], i, he, _ => by have := he.1; simp at this
  | m :: me, e :: l, i, he, hl => by
    have h1 := (he.2 0 e m rfl rfl).1
    have hke := hl e (List.mem_cons_self ..)
    have hrun := fun w => hq e.1 m.key hke h1 w
    cases hb : keq k e.1 with
    | true =>
      refine .inr ⟨0, e, m, rfl, rfl, hb, fun w => ?_⟩
      simp [Instr.findAsking, hrun w, hb]
    | false =>
      have het : EntR ι ψ l me := ⟨by have := he.1; simpa using this, fun j x y hx hy => he.2 (j + 1) x y (by simpa using hx) (by simpa using hy)⟩
      rcases find_ask hq me l (i + 1) het (fun x hx => hl x (List.mem_cons_of_mem _ hx)) with ⟨h2, h3⟩ | ⟨j, x, y, h2, h3, h4, h5⟩
      · refine .inl ⟨fun x hx => ?_, fun w => ?_⟩
        · rcases List.mem_cons.1 hx with rfl | hx
          · exact hb
          · exact h2 x hx
        · simp [Instr.findAsking, hrun w, hb, h3 w]
      · refine .inr ⟨j + 1, x, y, by simpa using h2, by simpa using h3, h4, fun w => ?_⟩
        simp [Instr.findAsking, hrun w, hb, h5 w]
        omega
theorem find_low {kt : TypeId} {k : AV} {c : Value} {l : List (AV × AV)} {me : List MapEntry} (hk : VR ι ψ k c) (he : EntR ι ψ l me) (hkk : keyA P kt k = true) (hall : ∀ e ∈ l, keyA P kt e.1 = true) :
    ((∀ x ∈ me, x.key ≠ c) ∧ ∀ w, (Instr.findKey kt c me).run P w = .ok none w) ∨ ∃ j m, me[j]? = some m ∧ m.key = c ∧ ∀ w, (Instr.findKey kt c me).run P w = .ok (some (j, m.val)) w := by
  rcases keyA_cases hkk with hB | ⟨fs, a, hu, rfl, hst, hfs⟩
  · obtain ⟨d, hd⟩ : ∃ d, P.underlying kt = some d := by
      cases hq : P.underlying kt with
      | none => unfold keyB at hB; simp [hq] at hB
      | some d => exact ⟨d, rfl⟩
    have hkeys : ∀ x ∈ me, IsKey d x.key := by
      intro x hx
      obtain ⟨j, hj⟩ := List.getElem?_of_mem hx
      have hlt : j < l.length := by rw [he.1]; exact (List.getElem?_eq_some_iff.1 hj).1
      rcases keyA_cases (hall _ (List.getElem_mem hlt)) with h | ⟨fs, _, hu, _⟩
      · exact key_value hd h (he.2 j l[j] x (List.getElem?_eq_getElem hlt) hj).1
      · exact absurd hu ((keyB_noagg hB).2 fs)
    rcases findNow_spec (key_value hd hB hk) me 0 hkeys with ⟨h1, h2⟩ | ⟨j, m, h1, h2, h3⟩
    · exact .inl ⟨h2, fun w => run_findKey hd h1⟩
    · exact .inr ⟨j, m, h2, h3, fun w => run_findKey hd (by simpa using h1)⟩
  · have hq : ∀ (x : AV) (e : Value), keyA P kt x = true → VR ι ψ x e → ∀ w, (Op.equal kt c e).run P w = .ok (keq (.agg a) x) w := by
      intro x e hx hxe w
      rcases keyA_cases hx with h' | ⟨fs', b, hu', rfl, _, hfs'⟩
      · exact absurd hu ((keyB_noagg h').2 fs)
      · rw [hu] at hu'; cases hu'
        exact key_equal hu hst hfs hfs' hk hxe w
    have hkeyrun : ∀ w, (Instr.findKey kt c me).run P w = (Instr.findAsking kt c me 0).run P w := by
      intro w
      cases me with
      | nil => simp [Instr.findKey, run_underlying hu, Instr.findNow, Instr.findAsking]
      | cons m me => simp [Instr.findKey, run_underlying hu, Instr.findNow, Instr.sameNow]
    rcases find_ask hq me l 0 he hall with ⟨h1, h2⟩ | ⟨j, e, m, h1, h2, h3, h4⟩
    · refine .inl ⟨fun x hx hxc => ?_, fun w => (hkeyrun w).trans (h2 w)⟩
      obtain ⟨j, hj⟩ := List.getElem?_of_mem hx
      have hlt : j < l.length := by rw [he.1]; exact (List.getElem?_eq_some_iff.1 hj).1
      have hm := List.getElem_mem hlt
      have hv := (he.2 j l[j] x (List.getElem?_eq_getElem hlt) hj).1
      have h5 := (key_same (hall _ hm) hkk hv hk).1 hxc
      have h6 := h1 _ hm
      rw [(keq_iff hkk (hall _ hm)).2 h5.symm] at h6
      cases h6
    · have hm := List.mem_of_getElem? h1
      have hv := (he.2 j e m h1 h2).1
      refine .inr ⟨j, m, h2, (key_same (hall _ hm) hkk hv hk).2 ((keq_iff hkk (hall _ hm)).1 h3).symm, fun w => (hkeyrun w).trans (by simpa using h4 w)⟩
theorem find_spec {kt : TypeId} {k : AV} {c : Value} {es l : List (AV × AV)} {me : List MapEntry} (hk : VR ι ψ k c) (hp : l.Perm es) (hn : (es.map Prod.fst).Nodup)
    (he : EntR ι ψ l me) (hkk : keyA P kt k = true) (hall : ∀ e ∈ es, keyA P kt e.1 = true) :
    (es.find? (fun e => keq k e.1) = none ∧ ∀ w, (Instr.findKey kt c me).run P w = .ok none w) ∨
    ∃ j e m, es.find? (fun e => keq k e.1) = some e ∧ l[j]? = some e ∧ me[j]? = some m ∧ m.key = c ∧ e.1 = k ∧ ∀ w, (Instr.findKey kt c me).run P w = .ok (some (j, m.val)) w := by
  rcases find_low hk he hkk (fun e hem => hall e (hp.mem_iff.1 hem)) with ⟨h2, h1⟩ | ⟨j, m, h2, h3, h1⟩
  · refine .inl ⟨?_, h1⟩
    rw [List.find?_eq_none]
    intro e hem hq
    have e1 := (keq_iff hkk (hall e hem)).1 hq
    obtain ⟨j, hj⟩ := List.getElem?_of_mem (hp.mem_iff.2 hem)
    have hlt : j < me.length := by rw [← he.1]; exact (List.getElem?_eq_some_iff.1 hj).1
    have hv := (he.2 j e me[j] hj (List.getElem?_eq_getElem hlt)).1
    exact h2 me[j] (List.getElem_mem hlt) ((key_same (hall e hem) hkk hv hk).2 e1.symm)
  · have hlt : j < l.length := by rw [he.1]; exact (List.getElem?_eq_some_iff.1 h2).1
    have hl : l[j]? = some l[j] := List.getElem?_eq_getElem hlt
    have hmem : l[j] ∈ es := hp.mem_iff.1 (List.getElem_mem hlt)
    have hv := he.2 j l[j] m hl h2
    have hke : l[j].1 = k := (key_same (hall _ hmem) hkk hv.1 hk).1 h3
    refine .inr ⟨j, l[j], m, ?_, hl, h2, h3, hke, h1⟩
    cases hf : es.find? (fun e => keq k e.1) with
    | none =>
      rw [List.find?_eq_none] at hf
      exact absurd ((keq_iff hkk (hall _ hmem)).2 hke.symm) (hf _ hmem)
    | some e' =>
      have h4 := List.find?_some hf
      have h5 := List.mem_of_find?_eq_some hf
      have h6 := (keq_iff hkk (hall e' h5)).1 h4
      congr 1
      obtain ⟨a, ha⟩ := List.getElem?_of_mem h5
      obtain ⟨b, hb⟩ := List.getElem?_of_mem hmem
      have hab : a = b := by
        have hal : a < (es.map Prod.fst).length := by simpa using (List.getElem?_eq_some_iff.1 ha).1
        refine (List.getElem?_inj hal hn).1 ?_
        simp only [List.getElem?_map, ha, hb, Option.map_some]
        rw [← h6, hke]
      subst hab
      rw [ha] at hb; cases hb; rfl
theorem keyB_val {kt : TypeId} {x : AV} (h : keyB P kt x = true) : aggT P kt = some false ∧ ∃ d, P.underlying kt = some d := by
  unfold aggT
  unfold keyB at h
  cases hu : P.underlying kt with
  | none => simp [hu] at h
  | some d =>
    simp only [hu] at h
    refine ⟨?_, d, rfl⟩
    cases d <;> cases x <;> simp at h <;> rfl
theorem check_fs (e : Bool) (w : World) {A : List AV} {vs : Array Value} (hl : A.length = vs.size) (hv : ∀ (j : Nat) (x : AV), A[j]? = some x → ∃ v, vs[j]? = some v ∧ VR ι ψ x v) : ∀ (fs : List Field) (i : Nat), keyFs P fs i (A.drop i) = true →
    (forIn (m := Sem) fs PUnit.unit fun f (_ : PUnit) => if f.name ≠ "_" then do
        let x ← part f.type vs f.offset
        Instr.checkKey e 9999 f.type x
        pure (ForInStep.yield PUnit.unit)
      else pure (ForInStep.yield PUnit.unit)).run P w = .ok PUnit.unit w
  | [], _, _ => rfl
  | f :: fs, i, h => by
    cases hd : A.drop i with
    | nil => rw [hd] at h; simp [keyFs] at h
    | cons x xs =>
      rw [hd] at h
      simp only [keyFs, Bool.and_eq_true, bne_iff_ne, ne_eq, decide_eq_true_eq] at h
      obtain ⟨q1, q2, q3, q4, q5⟩ := h
      have hxs : A.drop (i + 1) = xs := by rw [← List.drop_drop, hd]; rfl
      have ih := check_fs e w hl hv fs (i + 1) (by rw [hxs]; exact q5)
      obtain ⟨hag, d, hud⟩ := keyB_val q3
      obtain ⟨cv, hr, hvr⟩ := part_sound (P := P) (w := w) hag q4 hl hv f.offset (y := x) (by rw [q2, hd]; rfl)
      have hck : (Instr.checkKey e 9999 f.type cv).run P w = .ok () w := run_checkKey hud (key_value hud q3 hvr) e 9998
      rw [List.forIn_cons]
      simp only [ne_eq, q1, not_false_eq_true, if_true]
      simp [hr, hck, Result.andThen]
      simpa using ih
theorem key_check {kt : TypeId} {x : AV} {c : Value} (hx : keyA P kt x = true) (h : VR ι ψ x c) (e : Bool) (w : World) : (Instr.checkKey e 10000 kt c).run P w = .ok () w := by
  rcases keyA_cases hx with hB | ⟨fs, a, hu, rfl, hst, hfs⟩
  · obtain ⟨d, hd⟩ : ∃ d, P.underlying kt = some d := by
      cases hq : P.underlying kt with
      | none => unfold keyB at hB; simp [hq] at hB
      | some d => exact ⟨d, rfl⟩
    exact run_checkKey hd (key_value hd hB h) e 9999
  · cases h with
    | agg _ vs hl hv =>
      unfold Instr.checkKey
      simp only [Sem.run_bind, run_underlying hu, Result.andThen]
      have := check_fs (P := P) e w hl (fun j x hx => by
        have hj : j < vs.size := by rw [← hl]; exact (List.getElem?_eq_some_iff.1 hx).1
        exact ⟨vs[j], by simp [hj], hv j x _ hx (by simp [hj])⟩) fs.toList 0 hfs
      rw [Array.forIn_toList] at this
      rw [this]; rfl
theorem keyFs_get : ∀ {fs : List Field} {i : Nat} {a : List AV}, keyFs P fs i a = true → ∀ x ∈ a, ∃ T, keyB P T x = true
  | [], _, [], _, x, hx => by cases hx
  | [], _, _ :: _, h, _, _ => by simp [keyFs] at h
  | _ :: _, _, [], _, x, hx => by cases hx
  | f :: fs, i, y :: a, h, x, hx => by
    simp only [keyFs, Bool.and_eq_true] at h
    rcases List.mem_cons.1 hx with rfl | hx
    · exact ⟨_, h.2.2.1⟩
    · exact keyFs_get h.2.2.2.2 x hx
theorem key_stays {kt : TypeId} {x : AV} {c : Value} (hx : keyA P kt x = true) (h : VR ι ψ x c) (w : World) : (Instr.keyThatStays c c).run P w = .ok c w := by
  rcases keyA_cases hx with hB | ⟨fs, a, hu, rfl, hst, hfs⟩
  · obtain ⟨_, d, hd⟩ := keyB_val hB
    exact run_keyThatStays (key_value hd hB h)
  · cases h with
    | agg _ vs hl hv =>
      have hs : Instr.sameBits 10000 (.agg vs) (.agg vs) = true := by
        show Instr.sameBits (9999 + 1) (.agg vs) (.agg vs) = true
        simp only [Instr.sameBits, beq_self_eq_true, Bool.true_and, List.all_eq_true]
        intro p hp
        obtain ⟨j, hj⟩ := List.getElem?_of_mem hp
        rw [List.getElem?_zip_eq_some] at hj
        obtain ⟨h1, h2⟩ := hj
        have e : p.1 = p.2 := by rw [h1] at h2; exact Option.some.inj h2
        have hlt : j < a.length := by rw [hl]; have := (List.getElem?_eq_some_iff.1 h1).1; simpa using this
        obtain ⟨T, hT⟩ := keyFs_get hfs a[j] (List.getElem_mem hlt)
        obtain ⟨_, d, hd⟩ := keyB_val hT
        have hvr := hv j a[j] p.1 (List.getElem?_eq_getElem hlt) (by simpa using h1)
        show Instr.sameBits 9999 p.1 p.2 = true
        rw [← e]
        exact sameBits_self (key_value hd hT hvr) 9999
      simp [Instr.keyThatStays, hs]
def zeroV (P : Program) (t : TypeId) : Option AV := ((P.info? t).bind (·.zero)).map ofV
theorem zeroV_sound {t : TypeId} {z : AV} (h : zeroV P t = some z) : ∃ v, (zeroValue t).run P w = .ok v w ∧ VR ι ψ z v := by
  unfold zeroV at h
  cases hi : P.info? t with
  | none => simp [hi] at h
  | some i =>
    cases hz : i.zero with
    | none => simp [hi, hz] at h
    | some v =>
      simp [hi, hz] at h; subst h
      exact ⟨v, by simp [zeroValue, typeInfo, hi, hz], VR_ofV v⟩
def entsA (S : List Blk) : AV → Option (List (AV × AV))
  | .mnil => some []
  | .mval es => some es
  | .mown a => match S[a]? with
    | some (.mp _ es) => some es
    | _ => none
  | _ => none
theorem ents_sound (h : Rel w0 ι ψ S w) {x : AV} {c : Value} {es : List (AV × AV)} (hx : VR ι ψ x c) (he : entsA S x = some es) :
    ∃ (me : Array MapEntry) (l : List (AV × AV)), (es.map Prod.fst).Nodup ∧ l.Perm es ∧ EntR ι ψ l me.toList ∧ ((c = .map none ∧ me = #[]) ∨ ∃ r ck, c = .map (some r) ∧ w.heap[r]? = some (.map me ck) ∧ MapOk me ck) := by
  cases hx with
  | mnil => simp [entsA] at he; subst he; exact ⟨#[], [], by simp, .refl _, ⟨rfl, by simp⟩, .inl ⟨rfl, rfl⟩⟩
  | mval es' l b ck me hb hp hl hn h1 h2 =>
    simp [entsA] at he; subst he
    obtain ⟨hck, hok⟩ := h.psim b me ck hb
    exact ⟨me, l, hn, hp, ⟨by simpa using hl, fun i e m hi hm => ⟨h1 i e m hi (by simpa using hm), h2 i e m hi (by simpa using hm)⟩⟩, .inr ⟨b, ck, rfl, hck, hok⟩⟩
  | mown a pl hpl =>
    simp only [entsA] at he
    split at he
    · next fz es' hS =>
      simp at he; subst he
      obtain ⟨h0, hn, ⟨me, ck, l, h1, h2, h3, h4, h5⟩, h6⟩ := h.blk a _ pl hS hpl
      exact ⟨me, l, hn, h3, h4, .inr ⟨pl.blk, ck, rfl, h1, h2⟩⟩
    · cases he
  | _ => simp [entsA] at he
def lookupA (P : Program) (S : List Blk) (t : TypeId) (x k : AV) (ok : Bool) : Option AV :=
  match P.underlying t, entsA S x with
  | some (.map kt et), some es => match findA P kt k es, zeroV P et with
    | some r, some z => some (if ok then .tup [r.getD z, .bool r.isSome] else r.getD z)
    | _, _ => none
  | _, _ => none
theorem lookupA_sound (h : Rel w0 ι ψ S w) {t : TypeId} {x k y : AV} {c d : Value} {ok : Bool} (hx : VR ι ψ x c) (hk : VR ι ψ k d) (he : lookupA P S t x k ok = some y) :
    ∃ cv, (Instr.lookup t c d ok).run P w = .ok cv w ∧ VR ι ψ y cv := by
  unfold lookupA at he
  split at he
  · next kt et es hu hes =>
    split at he
    · next r z hr hz =>
      simp only [Option.some.injEq] at he
      subst he
      unfold findA at hr
      split at hr
      · next hc =>
        simp only [Bool.and_eq_true, List.all_eq_true] at hc
        simp only [Option.some.injEq] at hr
        subst hr
        obtain ⟨me, l, hn, hp, hent, hcase⟩ := ents_sound h hx hes
        obtain ⟨zv, hzr, hzv⟩ := zeroV_sound (P := P) (w := w) (ι := ι) (ψ := ψ) hz
        have hck : ∀ e, (Instr.checkKey e 10000 kt d).run P w = .ok () w := fun e => key_check hc.1 hk e w
        have tup2 : ∀ {a : AV} {v : Value} {b : Bool}, VR ι ψ a v → VR ι ψ (if ok then .tup [a, .bool b] else a) (if ok then .tuple #[v, .bool b] else v) := fun {a v b} h => by
          cases ok
          · exact h
          · exact .tup _ _ rfl fun j x v hx hv => by
              match j with
              | 0 => simp at hx hv; subst hx; subst hv; exact h
              | 1 => simp at hx hv; subst hx; subst hv; exact .bool _
              | j + 2 => simp at hx
        rcases find_spec (P := P) hk hp hn hent hc.1 hc.2 with ⟨e1, e2⟩ | ⟨j, e, m, e1, e2, e3, e4, e5, e6⟩
        · rw [e1]
          refine ⟨_, ?_, tup2 (b := false) hzv⟩
          rcases hcase with ⟨rfl, rfl⟩ | ⟨r, ck, rfl, hm, _⟩
          · have hf : (Instr.findKey kt d []).run P w = .ok none w := e2 w
            simp [Instr.lookup, run_underlying hu, hck, hf, hzr]
          · have hf := e2 w
            simp [Instr.lookup, run_underlying hu, MapKept.run_getObj_map hm, hck, hf, hzr]
        · rw [e1]
          refine ⟨_, ?_, tup2 (b := true) (hent.2 j e m e2 e3).2⟩
          rcases hcase with ⟨rfl, rfl⟩ | ⟨r, ck, rfl, hm, _⟩
          · simp at e3
          · have hf := e6 w
            simp [Instr.lookup, run_underlying hu, MapKept.run_getObj_map hm, hck, hf]
      · cases hr
    · cases he
  · cases he
def isIface : TypeDesc → Bool
  | .interface _ => true
  | _ => false
def assertA (P : Program) (x : AV) (t : TypeId) (ok : Bool) : Option AV :=
  match P.underlying t with
  | some d => if isIface d then none else
    match x, ok with
    | .ifc u v, ok => if u = t then some (if ok then .tup [v, .bool true] else v) else (if ok then (zeroV P t).map (fun z => .tup [z, .bool false]) else none)
    | .inil, true => (zeroV P t).map (fun z => .tup [z, .bool false])
    | _, _ => none
  | none => none
theorem assertA_sound {x y : AV} {c : Value} {t xt : TypeId} {ok : Bool} (hx : VR ι ψ x c) (he : assertA P x t ok = some y) : ∃ cv, (Instr.typeAssert c xt t ok).run P w = .ok cv w ∧ VR ι ψ y cv := by
  have tup2 : ∀ {a : AV} {v : Value} {b : Bool}, VR ι ψ a v → VR ι ψ (.tup [a, .bool b]) (.tuple #[v, .bool b]) := fun {a v b} h => .tup _ _ rfl fun j x v hx hv => by
    match j with
    | 0 => simp at hx hv; subst hx; subst hv; exact h
    | 1 => simp at hx hv; subst hx; subst hv; exact .bool _
    | j + 2 => simp at hx
  unfold assertA at he
  split at he
  · next d hu =>
    split at he
    · cases he
    · next hi =>
      split at he
      · next u v =>
        cases hx with
        | ifc _ _ c hc =>
          by_cases hut : u = t
          · subst hut
            simp at he; subst he
            refine ⟨if ok then .tuple #[c, .bool true] else c, ?_, ?_⟩
            · cases d <;> simp [isIface] at hi <;> simp [Instr.typeAssert, run_underlying hu]
            · cases ok
              · exact hc
              · exact tup2 hc
          · rw [if_neg hut] at he
            cases ok
            · simp at he
            · simp only [if_true, Option.map_eq_some_iff] at he
              obtain ⟨z, hz, rfl⟩ := he
              obtain ⟨zv, hzr, hzv⟩ := zeroV_sound (P := P) (w := w) (ι := ι) (ψ := ψ) hz
              refine ⟨_, ?_, tup2 hzv⟩
              cases d <;> simp [isIface] at hi <;> simp [Instr.typeAssert, run_underlying hu, hut, hzr]
      · simp only [Option.map_eq_some_iff] at he
        obtain ⟨z, hz, rfl⟩ := he
        obtain ⟨zv, hzr, hzv⟩ := zeroV_sound (P := P) (w := w) (ι := ι) (ψ := ψ) hz
        cases hx
        refine ⟨_, ?_, tup2 hzv⟩
        cases d <;> simp [isIface] at hi <;> simp [Instr.typeAssert, run_underlying hu, hzr]
      · cases he
  · cases he
def entryA (S : List Blk) (x : AV) : Option AV :=
  match x with
  | .own a 0 => match S[a]? with
    | some (.mit (some e) _) => some (.tup [e.1, e.2])
    | _ => none
  | _ => none
theorem entryA_sound (h : Rel w0 ι ψ S w) {x y : AV} {c : Value} (hx : VR ι ψ x c) (he : entryA S x = some y) : ∃ cv, (Instr.entry c).run P w = .ok cv w ∧ VR ι ψ y cv := by
  unfold entryA at he
  split at he
  · next a =>
    split at he
    · next e rest hS =>
      simp at he; subst he
      cases hx with
      | own _ _ pl hpl =>
        obtain ⟨h0, h1, _⟩ := h.blk a _ pl hS hpl
        rcases h1 with ⟨_, _, h1⟩ | ⟨mb, ck, me, seen, l, k1, k2, k4, k5, k6⟩
        · cases h1
        · obtain ⟨b, m, q1, q2, q3, q4⟩ := k6 e rfl
          obtain ⟨hc, _⟩ := h.psim mb me ck k2
          refine ⟨.tuple #[m.key, m.val], by simp [Instr.entry, getObj, Sem.run, k1, q1, hc, q2], .tup _ _ rfl fun j x v hx hv => ?_⟩
          match j with
          | 0 => simp at hx hv; subst hx; subst hv; exact q3
          | 1 => simp at hx hv; subst hx; subst hv; exact q4
          | j + 2 => simp at hx
    · cases he
  · cases he
def lenM (S : List Blk) (P : Program) (t : TypeId) (x : AV) : Option AV :=
  match P.underlying t, x with
  | some (.map _ _), .mown a => match S[a]? with
    | some (.mp _ es) => some (.int .i64 es.length)
    | _ => none
  | _, _ => none
theorem lenM_sound (h : Rel w0 ι ψ S w) {t ty : TypeId} {x r : AV} {c : Value} (hx : VR ι ψ x c) (he : lenM S P t x = some r) : ∃ cv, (Builtin.len_ #[t] ty #[c]).run P w = .ok cv w ∧ VR ι ψ r cv := by
  unfold lenM at he
  split at he
  · next kt et a hu =>
    split at he
    · next fz es hS =>
      simp at he; subst he
      cases hx with
      | mown _ pl hpl =>
        obtain ⟨h0, hn, ⟨me, ck, l, h1, h2, h3, h4, h5⟩, h6⟩ := h.blk a _ pl hS hpl
        refine ⟨.int .i64 me.size, by simp [Builtin.len_, run_underlying hu, goInt, getObj, Sem.run, h1], ?_⟩
        have : es.length = me.size := by rw [← h3.length_eq, h4.1]; simp
        rw [this]; exact .int _ _
    · cases he
  · cases he
end Go.Fen
namespace Go.Fen
open Go.RowKit
variable {P : Program} {w0 w w' : World} {ι : List Pl} {ψ : Psi} {S : List Blk}
def AV.isJunk : AV → Bool
  | .junk => true
  | _ => false
def fillA (place : Nat → Option (Nat × Nat)) (cells : List AV) : List (Nat × AV) → Option (List AV)
  | [] => some cells
  | (i, v) :: rest =>
    match place i with
    | some (off, size) => if v.cells.length = size ∧ off + size ≤ cells.length ∧ v.isJunk = false then fillA place (splice cells off v.cells) rest else none
    | none => none
def CR (ι : List Pl) (ψ : Psi) (cs : List AV) (vs : Array Value) : Prop := cs.length = vs.size ∧ ∀ (j : Nat) (x : AV), cs[j]? = some x → ∃ v, vs[j]? = some v ∧ VR ι ψ x v
theorem put_range (off : Nat) : ∀ (l : List Value) (k : Nat) (cells : Array Value), off + k + l.length ≤ cells.size →
    ∀ j, (((l.zipIdx k).foldl (fun cs (p : Value × Nat) => cs.setIfInBounds (off + p.2) p.1) cells)[j]? = if off + k ≤ j ∧ j < off + k + l.length then l[j - (off + k)]? else cells[j]?) ∧
      ((l.zipIdx k).foldl (fun cs (p : Value × Nat) => cs.setIfInBounds (off + p.2) p.1) cells).size = cells.size := by
  intro l
  induction l with
  | nil => intro k cells h j; simp; omega
  | cons v l ih =>
    intro k cells h j
    simp only [List.length_cons] at h
    obtain ⟨h1, h2⟩ := ih (k + 1) (cells.setIfInBounds (off + k) v) (by simp; omega) j
    simp only [List.zipIdx_cons, List.foldl_cons]
    refine ⟨?_, by rw [h2]; simp⟩
    rw [h1]
    by_cases hj : off + k = j
    · subst hj
      rw [if_neg (by omega), if_pos (by simp)]
      simp [show off + k < cells.size by omega]
    · by_cases hin : off + (k + 1) ≤ j ∧ j < off + (k + 1) + l.length
      · rw [if_pos hin, if_pos (by simp; omega)]
        rw [show j - (off + k) = (j - (off + (k + 1))) + 1 by omega]; simp
      · rw [if_neg hin, if_neg (by simp; omega), Array.getElem?_setIfInBounds_ne hj]
theorem fill_sound {place : Nat → Option (Nat × Nat)} : ∀ (ps : List (Nat × AV)) (vs : List (Nat × Value)) (cells : List AV) (vc : Array Value) (r : List AV), CR ι ψ cells vc →
    ps.length = vs.length → (∀ (j : Nat) (p : Nat × AV) (q : Nat × Value), ps[j]? = some p → vs[j]? = some q → p.1 = q.1 ∧ VR ι ψ p.2 q.2) → fillA place cells ps = some r →
    ∃ rc, Instr.fill place vc vs = some rc ∧ CR ι ψ r rc := by
  intro ps
  induction ps with
  | nil =>
    intro vs cells vc r hc hl _ h
    cases vs with
    | nil => simp [fillA] at h; subst h; exact ⟨vc, rfl, hc⟩
    | cons => simp at hl
  | cons p ps ih =>
    intro vs cells vc r hc hl hv h
    cases vs with
    | nil => simp at hl
    | cons q vs =>
      obtain ⟨h1, h2⟩ := hv 0 p q rfl rfl
      obtain ⟨i, x⟩ := p
      obtain ⟨i', c⟩ := q
      simp only at h1 h2
      subst h1
      simp only [fillA] at h
      split at h
      · next off size hp =>
        split at h
        · next hs =>
          obtain ⟨hs1, hs2, hs3⟩ := hs
          obtain ⟨hcs, hcv⟩ := h2.cells (by intro e; subst e; simp [AV.isJunk] at hs3)
          have hput := put_range off c.cells.toList 0 vc (by have := hc.1; simp; omega)
          have hfold : c.cells.zipIdx.foldl (fun cs (x : Value × Nat) => cs.setIfInBounds (off + x.2) x.1) vc = (c.cells.toList.zipIdx 0).foldl (fun cs (p : Value × Nat) => cs.setIfInBounds (off + p.2) p.1) vc := by
            rw [← Array.foldl_toList]; simp
          have hcr : CR ι ψ (splice cells off x.cells) (c.cells.zipIdx.foldl (fun cs (x : Value × Nat) => cs.setIfInBounds (off + x.2) x.1) vc) := by
            rw [hfold]
            refine ⟨?_, fun j y hy => ?_⟩
            · rw [(hput 0).2]; have := hc.1; simp [splice]; omega
            · rw [(hput j).1]
              rw [splice, getElem?_splice cells x.cells off j (by omega)] at hy
              by_cases hj : off ≤ j ∧ j < off + x.cells.length
              · rw [if_pos hj] at hy
                rw [if_pos (by simp; omega)]
                obtain ⟨v, hv1, hv2⟩ := hcv _ y hy
                exact ⟨v, by simpa using hv1, hv2⟩
              · rw [if_neg hj] at hy
                rw [if_neg (by simp; omega)]
                exact hc.2 j y hy
          obtain ⟨rc, hr1, hr2⟩ := ih vs _ _ r hcr (by simpa using hl) (fun j p q hp hq => hv (j + 1) p q (by simpa using hp) (by simpa using hq)) h
          refine ⟨rc, ?_, hr2⟩
          have hle : ¬ (c.cells.size ≠ size ∨ off + c.cells.size > vc.size) := by have := hc.1; omega
          simp only [Instr.fill, hp]
          rw [if_neg (by simpa using hle)]
          exact hr1
        · cases h
      · cases h
def zeroA (P : Program) (t : TypeId) : Option (List AV) := ((P.info? t).bind (·.zero)).map (fun z => (ofV z).cells)
theorem zeroA_sound {t : TypeId} {z : List AV} (h : zeroA P t = some z) : ∃ v, (zeroValue t).run P w = .ok v w ∧ CR ι ψ z v.cells := by
  unfold zeroA at h
  cases hi : P.info? t with
  | none => simp [hi] at h
  | some i =>
    cases hz : i.zero with
    | none => simp [hi, hz] at h
    | some v =>
      simp [hi, hz] at h; subst h
      refine ⟨v, by simp [zeroValue, typeInfo, hi, hz], ?_⟩
      have key : ofV v ≠ .junk → CR ι ψ (ofV v).cells v.cells := fun hne => ⟨((VR_ofV (ι := ι) (ψ := ψ) v).cells hne).1.symm, ((VR_ofV (ι := ι) (ψ := ψ) v).cells hne).2⟩
      by_cases hj : ofV v = .junk
      · have : v.cells = #[v] := by cases v <;> first | rfl | simp [ofV] at hj
        rw [hj, this]
        refine ⟨rfl, fun j x e => ?_⟩
        cases j with
        | zero => simp [AV.cells] at e; subst e; exact ⟨v, by simp, .junk _⟩
        | succ n => simp [AV.cells] at e
      · exact key hj
def placesA (P : Program) (fs : List Field) : Option (List (Nat × Nat)) :=
  match fs with
  | [] => some []
  | f :: fs => match sizeT P f.type, placesA P fs with
    | some n, some r => some ((f.offset, n) :: r)
    | _, _ => none
theorem places_sound : ∀ (fs : List Field) (r : List (Nat × Nat)), placesA P fs = some r → ∀ w, (fs.mapM (m := Sem) fun f => do pure (f.offset, ← sizeOf f.type)).run P w = .ok r w
  | [], r, h, w => by simp [placesA] at h; subst h; simp
  | f :: fs, r, h, w => by
    simp only [placesA] at h
    split at h
    · next n r' hn hr =>
      simp at h; subst h
      have ih := places_sound fs r' hr w
      simp only [bind_pure_comp] at ih
      simp [List.mapM_cons, run_sizeOf hn, ih]
    · cases h
def buildA (P : Program) (t : TypeId) (parts : List (Nat × AV)) : Option AV :=
  match P.underlying t, zeroA P t with
  | some (.struct fs), some z => match placesA P fs.toList with
    | some pl => (fillA (fun i => pl[i]?) z parts).map .agg
    | none => none
  | some (.array _ e), some z => match sizeT P e with
    | some n => (fillA (fun i => some (i * n, n)) z parts).map .agg
    | none => none
  | _, _ => none
theorem buildA_sound {t : TypeId} {ps : List (Nat × AV)} {vs : Array (Nat × Value)} {r : AV} (hl : ps.length = vs.size)
    (hv : ∀ (j : Nat) (p : Nat × AV) (q : Nat × Value), ps[j]? = some p → vs[j]? = some q → p.1 = q.1 ∧ VR ι ψ p.2 q.2) (h : buildA P t ps = some r) :
    ∃ cv, (Instr.build t vs).run P w = .ok cv w ∧ VR ι ψ r cv := by
  unfold buildA at h
  split at h
  · next fs z hu hz =>
    obtain ⟨zv, hzr, hzc⟩ := zeroA_sound (P := P) (w := w) (ι := ι) (ψ := ψ) hz
    split at h
    · next pl hpl =>
      cases hf : fillA (fun i => pl[i]?) z ps with
      | none => simp [hf] at h
      | some cells =>
        simp [hf] at h; subst h
        obtain ⟨rc, h1, h2⟩ := fill_sound ps vs.toList z zv.cells cells hzc (by simpa using hl) (fun j p q hp hq => hv j p q hp (by simpa using hq)) hf
        have hm := places_sound fs.toList pl hpl w
        refine ⟨.agg rc, ?_, .agg _ _ h2.1 fun j x v hx hv' => ?_⟩
        · have hmA : (fs.mapM (m := Sem) fun f => do pure (f.offset, ← sizeOf f.type)).run P w = .ok pl.toArray w := by
            rw [Array.mapM_eq_mapM_toList]
            simp only [Sem.run_map, hm, Result.andThen_ok]
          simp only [Instr.build, Sem.run_bind, hzr, Result.andThen_ok, run_underlying hu, hmA]
          simp only [List.getElem?_toArray, h1, Sem.run_pure]
        · obtain ⟨v', e1, e2⟩ := h2.2 j x hx
          rw [e1] at hv'; cases hv'; exact e2
    · cases h
  · next n e z hu hz =>
    obtain ⟨zv, hzr, hzc⟩ := zeroA_sound (P := P) (w := w) (ι := ι) (ψ := ψ) hz
    split at h
    · next sz hsz =>
      cases hf : fillA (fun i => some (i * sz, sz)) z ps with
      | none => simp [hf] at h
      | some cells =>
        simp [hf] at h; subst h
        obtain ⟨rc, h1, h2⟩ := fill_sound ps vs.toList z zv.cells cells hzc (by simpa using hl) (fun j p q hp hq => hv j p q hp (by simpa using hq)) hf
        refine ⟨.agg rc, ?_, .agg _ _ h2.1 fun j x v hx hv' => ?_⟩
        · simp only [Instr.build, Sem.run_bind, hzr, Result.andThen_ok, run_underlying hu, run_sizeOf hsz, h1, Sem.run_pure]
        · obtain ⟨v', e1, e2⟩ := h2.2 j x hx
          rw [e1] at hv'; cases hv'; exact e2
    · cases h
  · cases h
def builtinA (P : Program) (S : List Blk) (b : Builtin) (args : List AV) (ts : List TypeId) : Option AV :=
  match b, args, ts with
  | .unsafeSliceData, [.sown a g n], _ => (match S[a]? with
    | some (.arr _ _ _ g' els) => if g = g' ∧ n = els.length ∧ 1 ≤ n then some (.oel a g 0 0) else none
    | _ => none)
  | .unsafeSliceData, [.snil], _ => some .nilp
  | .len, [x], [t] => (lenM S P t x).orElse fun _ => lenA P t x
  | .min, [.int k a, .int _ b], _ => some (.int k (if b < a then b else a))
  | .max, [.int k a, .int _ b], _ => some (.int k (if b > a then b else a))
  | _, _, _ => none
def pureF (P : Program) (S : List Blk) (ρ : Operand → AV) (op : Op) : Option AV :=
  match op with
  | .move x | .assign x => some (ρ x)
  | .pick c a b => match ρ c with
    | .bool t => some (if t then ρ a else ρ b)
    | _ => none
  | .load t a => loadA P S t (ρ a)
  | .nilCheck x => match ρ x with
    | .own a o => some (.own a o)
    | .oel a g i o => some (.oel a g i o)
    | .pro cs => some (.pro cs)
    | .fn (.func f) a c => some (.fn (.func f) a c)
    | _ => none
  | .binOp op t x y _ => binA P op t x y (ρ x) (ρ y)
  | .unOp op _ x => unA op (ρ x)
  | .convert s d x => convA P S s d (ρ x)
  | .makeInterface t x => if P.concrete t = true then some (.ifc t (ρ x)) else none
  | .makeFunc fn first cap => some (.fn fn (first.toList.map ρ) (cap.toList.map ρ))
  | .slice t x lo hi mx => sliceA P t (ρ x) (lo.map ρ) (hi.map ρ) (mx.map ρ)
  | .fieldAddr s x f => fieldA P s (ρ x) f
  | .field t x f => fieldV P t (ρ x) f
  | .indexAddr t x i => indexP P S t (ρ x) (ρ i)
  | .index t x i => indexV P t (ρ x) (ρ i)
  | .lookup t x i ok => lookupA P S t (ρ x) (ρ i) ok
  | .typeAssert x _ t ok => assertA P (ρ x) t ok
  | .entry x => entryA S (ρ x)
  | .extract x i => match ρ x with
    | .tup vs => vs[i]?
    | _ => none
  | .build t parts => buildA P t (parts.toList.map fun p => (p.1, ρ p.2))
  | .call c => match c.callee with
    | .builtin b => builtinA P S b (c.args.toList.map ρ) c.argTypes.toList
    | _ => none
  | _ => none
theorem OptR_map {ρ : Operand → AV} {σ : Operand → Value} (h : ∀ x, VR ι ψ (ρ x) (σ x)) (x : Option Operand) : OptR ι ψ (x.map ρ) (x.map σ) := by
  cases x with
  | none => trivial
  | some x => exact h x
theorem map_one {α β : Type} {f : α → β} {l : List α} {x : β} (h : l.map f = [x]) : ∃ a, l = [a] ∧ f a = x := by
  cases l with
  | nil => simp at h
  | cons a l => cases l with
    | nil => simp at h; exact ⟨a, rfl, h⟩
    | cons b l => simp at h
theorem map_two {α β : Type} {f : α → β} {l : List α} {x y : β} (h : l.map f = [x, y]) : ∃ a b, l = [a, b] ∧ f a = x ∧ f b = y := by
  cases l with
  | nil => simp at h
  | cons a l => cases l with
    | nil => simp at h
    | cons b l => cases l with
      | nil => simp at h; exact ⟨a, b, rfl, h.1, h.2⟩
      | cons c l => simp at h
theorem pureF_sound (h : Rel w0 ι ψ S w) {ρ : Operand → AV} {σ : Operand → Value} (hρ : ∀ x, VR ι ψ (ρ x) (σ x)) {o : Oper} {r : AV} (he : pureF P S ρ o.op = some r) :
    ∃ cv, (execOp σ o).run P w = .ok (.value cv) w ∧ VR ι ψ r cv := by
  obtain ⟨dst, op, ty, pos, after, guard⟩ := o
  simp only at he
  unfold pureF at he
  split at he
  · next x => simp at he; subst he; exact ⟨_, rfl, hρ x⟩
  · next x => simp at he; subst he; exact ⟨_, rfl, hρ x⟩
  · next c a b =>
    split at he
    · next t ht =>
      have := hρ c; rw [ht] at this
      have hc := this.bool_inv
      simp at he; subst he
      refine ⟨if t then σ a else σ b, by simp [execOp, hc, asBool], ?_⟩
      cases t <;> simp [hρ]
    · cases he
  · next t a =>
    obtain ⟨cv, hr, hv⟩ := loadA_sound h (hρ a) he
    exact ⟨cv, by simp [execOp, hr], hv⟩
  · next x =>
    have hx := hρ x
    split at he <;> (try (cases he; done)) <;> next heq =>
      rw [heq] at hx
      simp at he; subst he
      refine ⟨σ x, ?_, hx⟩
      generalize hc : σ x = c at hx
      cases hx <;> simp [execOp, hc]
  · next op t x y yt =>
    obtain ⟨cv, hr, hv⟩ := binA_sound (P := P) (w := w) (hρ x) (hρ y) he
    refine ⟨cv, ?_, hv⟩
    simp only [execOp]
    rw [Sem.run_bind, hr]; rfl
  · next op t x =>
    obtain ⟨cv, hr, hv⟩ := unA_sound (P := P) (w := w) (hρ x) he
    exact ⟨cv, by simp [execOp, hr], hv⟩
  · next s d x =>
    obtain ⟨cv, hr, hv⟩ := convA_sound (P := P) h (hρ x) he
    exact ⟨cv, by simp [execOp, hr], hv⟩
  · next t x =>
    split at he
    · next hc =>
      simp at he; subst he
      exact ⟨.iface t (σ x), by simp [execOp, run_makeInterface w t _ hc], .ifc _ _ _ (hρ x)⟩
    · cases he
  · next fn first cap =>
    simp at he; subst he
    refine ⟨.func fn (first.map σ) (cap.map σ), by simp [execOp, Instr.makeFunc], .fn _ _ _ _ _ (by simp) (by simp) ?_ ?_⟩
    all_goals
      intro j x v h1 h2
      simp only [List.getElem?_map, Array.getElem?_toList, Array.getElem?_map, Option.map_eq_some_iff] at h1 h2
      obtain ⟨y, hy, rfl⟩ := h1
      obtain ⟨z, hz, rfl⟩ := h2
      rw [hy] at hz; cases hz
      exact hρ y
  · next t x lo hi mx =>
    obtain ⟨cv, hr, hv⟩ := sliceA_sound (P := P) (w := w) (hρ x) (OptR_map hρ lo) (OptR_map hρ hi) (OptR_map hρ mx) he
    exact ⟨cv, by simp [execOp, hr], hv⟩
  · next s x f =>
    obtain ⟨cv, hr, hv⟩ := fieldA_sound (P := P) (w := w) (hρ x) he
    exact ⟨cv, by simp [execOp, hr], hv⟩
  · next t x f =>
    obtain ⟨cv, hr, hv⟩ := fieldV_sound (P := P) (w := w) (hρ x) he
    exact ⟨cv, by simp [execOp, hr], hv⟩
  · next t x i =>
    obtain ⟨cv, hr, hv⟩ := indexP_sound (P := P) h (hρ x) (hρ i) he
    exact ⟨cv, by simp [execOp, hr], hv⟩
  · next t x i =>
    obtain ⟨cv, hr, hv⟩ := indexV_sound (P := P) (w := w) (hρ x) (hρ i) he
    exact ⟨cv, by simp [execOp, hr], hv⟩
  · next t x i ok =>
    obtain ⟨cv, hr, hv⟩ := lookupA_sound (P := P) h (hρ x) (hρ i) he
    exact ⟨cv, by simp [execOp, hr], hv⟩
  · next x xt t ok =>
    obtain ⟨cv, hr, hv⟩ := assertA_sound (P := P) (w := w) (xt := xt) (hρ x) he
    exact ⟨cv, by simp [execOp, hr], hv⟩
  · next x =>
    obtain ⟨cv, hr, hv⟩ := entryA_sound (P := P) h (hρ x) he
    exact ⟨cv, by simp [execOp, hr], hv⟩
  · next x i =>
    split at he
    · next vs ht =>
      have := hρ x; rw [ht] at this
      obtain ⟨cs, hc, hl, hv⟩ := this.tup_inv
      obtain ⟨v, hv1, hv2⟩ := hv i r he
      exact ⟨v, by simp [execOp, hc, Instr.extract, hv1], hv2⟩
    · cases he
  · next t parts =>
    obtain ⟨cv, hr, hv⟩ := buildA_sound (P := P) (w := w) (vs := parts.map fun p => (p.1, σ p.2)) (by simp) (fun j p q hp hq => by
      simp only [List.getElem?_map, Array.getElem?_toList, Array.getElem?_map, Option.map_eq_some_iff] at hp hq
      obtain ⟨y, hy, rfl⟩ := hp
      obtain ⟨z, hz, rfl⟩ := hq
      rw [hy] at hz; cases hz
      exact ⟨rfl, hρ _⟩) he
    exact ⟨cv, by simp [execOp, hr], hv⟩
  · next c =>
    obtain ⟨callee, args, ts⟩ := c
    simp only at he
    split at he
    · next b =>
      unfold builtinA at he
      split at he
      · next a g n hargs =>
        obtain ⟨x, hx, hxa⟩ := map_one hargs
        obtain rfl : args = #[x] := by rw [← Array.toArray_toList (xs := args), hx]
        split at he
        · next e sz fz g' els hS =>
          split at he
          · next hc =>
            obtain ⟨rfl, rfl, h1⟩ := hc
            simp at he; subst he
            have hv := hρ x
            rw [hxa] at hv
            generalize hcx : σ x = c at hv
            cases hv with
            | sown _ _ _ ad cap pl hpl hgl hs =>
              obtain ⟨⟨hgen, hpsz⟩, _, _, _, ⟨xs, hown, hxs⟩, _⟩ := h.blk a _ pl hS hpl
              have hsv := hs hgen.symm
              rcases hown.2 with ⟨hn, hn0⟩ | ⟨b, cap', cur, hv, hb, hgg, hle, _⟩
              · omega
              · rw [hv] at hsv
                cases hsv
                refine ⟨.pointer (some ⟨b, 0, none⟩), ?_, .oel a g 0 0 _ pl hpl hgl fun _ => ⟨b, by rw [hv]; rfl, by simp⟩⟩
                have := Lib.run_unsafeSliceData_row (P := P) (w := w) ts ty ⟨b, 0, none⟩ els.length cap (by omega)
                simp [execOp, resolve, invoke, builtin, hcx, this]
          · cases he
        · cases he
      · next hargs =>
        obtain ⟨x, hx, hxa⟩ := map_one hargs
        obtain rfl : args = #[x] := by rw [← Array.toArray_toList (xs := args), hx]
        simp only [Option.some.injEq] at he; subst he
        have hv := hρ x
        rw [hxa] at hv
        generalize hcx : σ x = c at hv
        cases hv with
        | snil =>
          have hsd : (Builtin.unsafeSliceData_ ts ty #[.slice none 0 0]).run P w = .ok (.pointer none) w := rfl
          exact ⟨.pointer none, by simp [execOp, resolve, invoke, builtin, hcx, hsd], .nilp⟩
      · next x t hargs hts =>
        obtain ⟨a, ha, rfl⟩ := map_one hargs
        obtain rfl : args = #[a] := by rw [← Array.toArray_toList (xs := args), ha]
        obtain rfl : ts = #[t] := by rw [← Array.toArray_toList (xs := ts), hts]
        have key : ∃ cv, (Builtin.len_ #[t] ty #[σ a]).run P w = .ok cv w ∧ VR ι ψ r cv := by
          cases hm : lenM S P t (ρ a) with
          | some v => rw [hm] at he; simp at he; subst he; exact lenM_sound (P := P) (ty := ty) h (hρ a) hm
          | none => rw [hm] at he; exact lenA_sound (P := P) (ty := ty) h (hρ a) (by simpa using he)
        obtain ⟨cv, hr, hv⟩ := key
        exact ⟨cv, by simp [execOp, resolve, invoke, builtin, hr], hv⟩
      · next k a k' b' hargs =>
        obtain ⟨x, y, ha, hx, hy⟩ := map_two hargs
        obtain rfl : args = #[x, y] := by rw [← Array.toArray_toList (xs := args), ha]
        have h1 := hρ x; rw [hx] at h1; have h1 := h1.int_inv
        have h2 := hρ y; rw [hy] at h2; have h2 := h2.int_inv
        simp only [Option.some.injEq] at he; subst he
        exact ⟨_, by simp [execOp, resolve, invoke, builtin, h1, h2, run_min_int2], .int _ _⟩
      · next k a k' b' hargs =>
        obtain ⟨x, y, ha, hx, hy⟩ := map_two hargs
        obtain rfl : args = #[x, y] := by rw [← Array.toArray_toList (xs := args), ha]
        have h1 := hρ x; rw [hx] at h1; have h1 := h1.int_inv
        have h2 := hρ y; rw [hy] at h2; have h2 := h2.int_inv
        simp only [Option.some.injEq] at he; subst he
        exact ⟨_, by simp [execOp, resolve, invoke, builtin, h1, h2, run_max_int2], .int _ _⟩
      · cases he
    · cases he
  · cases he
end Go.Fen
namespace Go.Fen
open Go.RowKit
variable {P : Program} {w0 w w' : World} {ι : List Pl} {ψ : Psi} {S : List Blk}
theorem run_append_own_src (base : Nat) (t tx ty e : TypeId) (i : TypeInfo) (z : Value) (ht : P.underlying t = some (.slice e)) (hi : P.info? e = some i) (hz : i.zero = some z)
    (hzs : z.cells.size = i.size) (v : Value) (n : Nat) (xs : List Value) (hown : w.ownsRow base e i.size v n xs) (x : Value) (m : Nat) (news : List Value) (hs : Src P i.size tx x m news w)
    (h63 : n + m ≤ maxLen) (hbytes : (n + m) * i.bytes ≤ 140737488355328) (hbase : base ≤ w.heap.size) :
    ∃ v' w', (Builtin.append_ #[t, tx] ty #[v, x]).run P w = .ok v' w' ∧ w'.ownsRow base e i.size v' (n + m) (xs ++ news) ∧ w.grownBy w' v.ownBlock ∧
      (∃ ad cap, v' = .slice ad (n + m) cap) ∧ (v'.ownBlock = v.ownBlock ∨ (v'.ownBlock = some w.heap.size ∧ w.grownBy w' none)) := by
  have hsmall : ((n + m : Nat) : Int) ≤ 9223372036854775807 := by simp only [maxLen] at h63; omega
  have hl := hs.newsLen
  have hlen : (xs ++ news).length = (n + m) * i.size := by rw [List.length_append, hown.1, hl, Nat.add_mul]
  have grown : ∀ (old : Nat) (row : Option Nat),
      (w.drew.alloc (.cells ((xs ++ news).toArray ++ Builtin.zeroCells z.cells (grownCap w (n + m) old e - (n + m))) e)).ownsRow base e i.size
        (.slice (some ⟨w.heap.size, 0, none⟩) (n + m) (grownCap w (n + m) old e)) (n + m) (xs ++ news) ∧
      w.grownBy (w.drew.alloc (.cells ((xs ++ news).toArray ++ Builtin.zeroCells z.cells (grownCap w (n + m) old e - (n + m))) e)) row := by
    intro old row
    have hge := grownCap_ge w (n + m) old e
    have hcm : grownCap w (n + m) old e ≤ maxLen := grownCap_le_maxLen w (n + m) old e h63
    refine ⟨⟨hlen, .inr ⟨w.heap.size, _, _, rfl, hbase, heap_alloc_new w.drew _, hge, hcm, ?_, ?_⟩⟩, ⟨rfl, rfl, rfl, by simp, fun k hk _ => Below.heap_alloc w.drew _ k hk⟩⟩
    · simp only [Array.size_append, List.size_toArray, size_zeroCells, hzs, hlen, ← Nat.add_mul]
      congr 1
      omega
    · simp only [Array.toList_append]
      rw [← hlen]
      exact List.take_left
  rcases hown.2 with ⟨rfl, rfl⟩ | ⟨g, cap, cur, rfl, hbg, hg, hnc, hcm, hcs, htake⟩
  · have hx : xs = [] := List.eq_nil_of_length_eq_zero (by simpa using hown.1)
    subst hx
    by_cases hm : m = 0
    · subst hm
      have hn : news = [] := List.eq_nil_of_length_eq_zero (by simpa using hl)
      subst hn
      refine ⟨.slice none 0 0, w, ?_, World.ownsRow_nil w base e i.size, ⟨rfl, rfl, rfl, Nat.le_refl _, fun _ _ _ => rfl⟩, ⟨_, _, rfl⟩, .inl rfl⟩
      have hc := hs.cells
      rcases hs.kind with ⟨e', hk⟩ | hk <;> simp [Builtin.append_, run_underlying ht, run_underlying hk, sizeOf, typeInfo, hi, hs.len, hc]
    · have hr := run_append_grow_src (P := P) w t tx ty e i z ht hi hz none 0 0 [] (run_firstCells_none w.drew i.size 0 0 0) x m news hs (by omega) hsmall (growslice_fits (by omega) hbytes)
      obtain ⟨h1, h2⟩ := grown 0 (Value.ownBlock (.slice none 0 0))
      exact ⟨_, _, hr, h1, h2, ⟨_, _, rfl⟩, .inr ⟨rfl, (grown 0 none).2⟩⟩
  · by_cases hroom : n + m ≤ cap
    · have hfit : n * i.size + news.length ≤ cur.size := by rw [hl, hcs, ← Nat.add_mul]; exact Nat.mul_le_mul_right _ hroom
      have hst := run_storeCells_at P g (n * i.size) e news 0 cur w hg (by simpa using hfit) hs.one
      simp only [Nat.add_zero] at hst
      have hr : (Builtin.append_ #[t, tx] ty #[.slice (some ⟨g, 0, none⟩) n cap, x]).run P w = .ok (.slice (some ⟨g, 0, none⟩) (n + m) cap) (w.setRow g (cur.toList.take (n * i.size) ++ news ++ cur.toList.drop (n * i.size + news.length)).toArray) := by
        rcases hs.kind with ⟨e', hk⟩ | hk <;> simp [Builtin.append_, run_underlying ht, run_underlying hk, sizeOf, typeInfo, hi, hs.len, hroom, hs.cells, Addr.add_lit, hst]
      refine ⟨_, _, hr, ⟨hlen, .inr ⟨g, cap, _, rfl, hbg, setRow_heap w g cur _ e _ hg, hroom, hcm, ?_, ?_⟩⟩, ⟨rfl, rfl, rfl, by simp [World.setRow], fun k _ hk => setRow_other w g k _ (fun e => hk (by simp [Value.ownBlock, e]))⟩, ⟨_, _, rfl⟩, .inl rfl⟩
      · simp only [List.size_toArray, List.length_append, List.length_take, List.length_drop, Array.length_toList]
        omega
      · rw [htake, ← hlen]
        exact List.take_left
    · have holds : ∀ j u, xs[j]? = some u → w.cell? ((⟨g, 0, none⟩ : Addr).add j) = some u := hown.cells (g := g) rfl
      have hr := run_append_grow_src (P := P) w t tx ty e i z ht hi hz (some ⟨g, 0, none⟩) n cap xs (run_firstCells_some w.drew i.size n ⟨g, 0, none⟩ n cap xs hown.1 (by simpa using holds)) x m news hs (by omega) hsmall (growslice_fits (by omega) hbytes)
      obtain ⟨h1, h2⟩ := grown cap (Value.ownBlock (.slice (some ⟨g, 0, none⟩) n cap))
      exact ⟨_, _, hr, h1, h2, ⟨_, _, rfl⟩, .inr ⟨rfl, (grown cap none).2⟩⟩
def srcA (P : Program) (S : List Blk) (tx : TypeId) (x : AV) : Option (List AV) :=
  match P.underlying tx, x with
  | some (.slice _), .snil => some []
  | some (.slice _), .sval _ els => some els
  | some (.slice _), .sown a g n => match S[a]? with
    | some (.arr _ _ _ g' els) => if g = g' ∧ n = els.length then some els else none
    | _ => none
  | some .string, .str s => some (s.map fun b => .int .u8 b.toNat)
  | _, _ => none
def okEls (sz : Nat) (els : List AV) : Bool := els.all fun e => e.cells.length == sz && e.cells.all AV.leaf
theorem okEls_len {sz : Nat} {els : List AV} (h : okEls sz els = true) : ∀ x ∈ els, x.cells.length = sz := by
  intro x hx
  have := List.all_eq_true.1 h x hx
  simp at this; exact this.1
theorem okEls_leaf {sz : Nat} {els : List AV} (h : okEls sz els = true) {j : Nat} {x : AV} (hx : (flat els)[j]? = some x) : x.leaf = true := by
  have hm := List.mem_of_getElem? hx
  unfold flat at hm
  obtain ⟨e, he, hxe⟩ := List.mem_flatMap.1 hm
  have := List.all_eq_true.1 h e he
  simp at this; exact this.2 x hxe
theorem cells_of (f : Nat → Value) (n : Nat) : ∀ j, j < n → ((List.range n).map f)[j]? = some (f j) := by
  intro j hj; simp [hj]
theorem srcA_sound (h : Rel w0 ι ψ S w) {tx : TypeId} {x : AV} {c : Value} {els : List AV} {sz : Nat} (hx : VR ι ψ x c) (hs : srcA P S tx x = some els) (hok : okEls sz els = true) (hpos : 0 < sz) :
    ∃ news, Src P sz tx c els.length news w ∧ news.length = (flat els).length ∧ ∀ (j : Nat) (y : AV), (flat els)[j]? = some y → ∃ v, news[j]? = some v ∧ VR ι ψ y v := by
  have hlen := okEls_len hok
  have hfl := flat_length hlen
  unfold srcA at hs
  split at hs
  · next e' hu =>
    simp at hs; subst hs
    cases hx with
    | snil => exact ⟨[], Src.ofNil w hu 0, rfl, fun j y e => by simp [flat] at e⟩
  · next e' full els' hu =>
    simp at hs; subst hs
    cases hx with
    | svnil => exact ⟨[], Src.ofNil w hu 0, rfl, fun j y e => by simp [flat] at e⟩
    | sve _ ad cap hf => exact ⟨[], Src.ofSlice w hu ad 0 cap [] (by simp) (by simp) (by simp), rfl, fun j y e => by simp [flat] at e⟩
    | sval sz' _ _ b o cap cv hsz hcap hf h1 h2 =>
      by_cases hnil : els' = []
      · subst hnil
        exact ⟨[], Src.ofSlice w hu ⟨b, o, none⟩ 0 cap [] (by simp) (by simp) (by simp), rfl, fun j y e => by simp [flat] at e⟩
      · have hszz : sz' = sz := by
          cases els' with
          | nil => exact absurd rfl hnil
          | cons e r => rw [← hsz 0 e rfl]; exact hlen e (by simp)
        subst hszz
        have get : ∀ (k : Nat) (y : AV), (flat els')[k]? = some y → y.leaf = true ∧ w.cell? ⟨b, o + k, none⟩ = some (cv (k / sz') (k % sz')) ∧ VR ι ψ y (cv (k / sz') (k % sz')) := by
          intro k y hy
          obtain ⟨e, he, hk⟩ := flat_inv hlen hpos hy
          have g1 := h1 _ _ _ _ he hk
          have := h.psi _ _ _ g1.2
          rw [Nat.add_assoc, Nat.div_add_mod' k sz'] at this
          exact ⟨g1.1, this, h2 _ _ _ _ he hk⟩
        let f : Nat → Value := fun k => cv (k / sz') (k % sz')
        have hn : ∀ j u, ((List.range (flat els').length).map f)[j]? = some u → w.cell? ((⟨b, o, none⟩ : Addr).add j) = some u := by
          intro j u hu
          have hj : j < (flat els').length := by have := (List.getElem?_eq_some_iff.1 hu).1; simpa using this
          rw [cells_of f _ j hj] at hu; cases hu
          rw [Addr.add_lit]
          exact (get j _ (List.getElem?_eq_getElem hj)).2.1
        refine ⟨(List.range (flat els').length).map f, Src.ofSlice w hu ⟨b, o, none⟩ _ cap _ (by simp [hfl]) hn ?_, by simp, fun j y e => ⟨f j, cells_of f _ j (List.getElem?_eq_some_iff.1 e).1, (get j y e).2.2⟩⟩
        intro u hu
        obtain ⟨j, hj, rfl⟩ := List.mem_map.1 hu
        have hj' : j < (flat els').length := by simpa using hj
        obtain ⟨g1, _, g3⟩ := get j _ (List.getElem?_eq_getElem hj')
        exact g3.oneCell g1
  · next e' a g n hu =>
    split at hs
    · next e2 sz' fz g' els' hS =>
      split at hs
      · next hg =>
        obtain ⟨rfl, rfl⟩ := hg
        simp at hs; subst hs
        cases hx with
        | sown _ _ _ ad cap pl hpl hgl hs' =>
          obtain ⟨⟨hgen, hpsz⟩, hsz, hpos', _, ⟨xs, hown, hxs⟩, _⟩ := h.blk a _ pl hS hpl
          have hsv := hs' hgen.symm
          rcases hown.2 with ⟨hn, hn0⟩ | ⟨b, cap', cur, hv, hb', hgg, _⟩
          · rw [hn] at hsv
            simp only [Value.slice.injEq] at hsv
            obtain ⟨rfl, h0, rfl⟩ := hsv
            have : els' = [] := List.eq_nil_of_length_eq_zero (by omega)
            subst this
            exact ⟨[], Src.ofNil w hu 0, rfl, fun j y e => by simp [flat] at e⟩
          · rw [hv] at hsv
            simp only [Value.slice.injEq] at hsv
            obtain ⟨rfl, _, rfl⟩ := hsv
            by_cases hnil : els' = []
            · subst hnil
              exact ⟨[], Src.ofSlice w hu ⟨b, 0, none⟩ 0 _ [] (by simp) (by simp) (by simp), rfl, fun j y e => by simp [flat] at e⟩
            · have hszz : sz' = sz := by
                cases els' with
                | nil => exact absurd rfl hnil
                | cons e r => rw [← hsz e (by simp)]; exact hlen e (by simp)
              subst hszz
              have hxl : xs.length = (flat els').length := by rw [hown.1, hfl]
              refine ⟨xs, Src.ofSlice w hu ⟨b, 0, none⟩ _ _ xs hown.1 (hown.cells (g := b) (by rw [hv]; rfl)) ?_, hxl, fun j y e => ?_⟩
              · intro u hu
                obtain ⟨j, hj⟩ := List.getElem?_of_mem hu
                have hj' : j < (flat els').length := by rw [← hxl]; exact (List.getElem?_eq_some_iff.1 hj).1
                obtain ⟨g1, v, g2, g3, _⟩ := hxs j _ (List.getElem?_eq_getElem hj')
                rw [hj] at g2; cases g2
                exact g3.oneCell g1
              · obtain ⟨_, v, g2, g3, _⟩ := hxs j y e
                exact ⟨v, g2, g3⟩
      · cases hs
    · cases hs
  · next s hu =>
    simp at hs; subst hs
    obtain rfl := hx.str_inv
    by_cases hnil : s = []
    · subst hnil
      refine ⟨[], ?_, rfl, fun j y e => by simp [flat] at e⟩
      refine ⟨.inr hu, fun _ => rfl, ?_, ?_, by simp, fun _ h => by cases h⟩ <;> simp [Builtin.firstCells]
    · have hs1 : sz = 1 := by
        cases s with
        | nil => exact absurd rfl hnil
        | cons b r => have := hlen (.int .u8 b.toNat) (by simp); simpa [AV.cells] using this.symm
      subst hs1
      have hflat : flat (s.map fun b => AV.int .u8 (b.toNat : Int)) = s.map fun b => AV.int .u8 b.toNat := by
        clear hok hlen hfl hnil hx
        unfold flat
        induction s with
        | nil => rfl
        | cons b r ih => simp [AV.cells, ih]
      have := Src.ofString (P := P) w hu (⟨s.toArray⟩ : ByteArray)
      refine ⟨byteCells ⟨s.toArray⟩, by simpa [ByteArray.size_mk'] using this, by simp [byteCells, hflat], fun j y e => ?_⟩
      rw [hflat] at e
      simp only [List.getElem?_map, Option.map_eq_some_iff] at e
      obtain ⟨b, hb, rfl⟩ := e
      exact ⟨.int .u8 b.toNat, by simp [byteCells, hb], .int _ _⟩
  · cases hs
theorem flat_append (a b : List AV) : flat (a ++ b) = flat a ++ flat b := by simp [flat]
def einfo (P : Program) (e : TypeId) : Option (Nat × Nat × Nat) := (P.info? e).bind fun i => i.zero.map fun z => (i.size, i.bytes, z.cells.size)
theorem einfo_spec {e : TypeId} {a b c : Nat} (h : einfo P e = some (a, b, c)) : ∃ i z, P.info? e = some i ∧ i.zero = some z ∧ i.size = a ∧ i.bytes = b ∧ z.cells.size = c := by
  unfold einfo at h
  cases hi : P.info? e with
  | none => simp [hi] at h
  | some i =>
    cases hz : i.zero with
    | none => simp [hi, hz] at h
    | some z => simp [hi, hz] at h; exact ⟨i, z, rfl, hz, h⟩
def appendA (P : Program) (S : List Blk) (t tx : TypeId) (s x : AV) : Option (AV × List Blk) :=
  match P.underlying t, srcA P S tx x with
  | some (.slice e), some news => match einfo P e with
    | some (sz, bytes, zs) => if okEls sz news = true ∧ 0 < sz ∧ 0 < bytes ∧ zs = sz then (match s with
        | .sown a g n => match S[a]? with
          | some (.arr e' sz' fz g' els) =>
            if g = g' ∧ n = els.length ∧ e' = e ∧ sz' = sz ∧ (n + news.length) * bytes ≤ 140737488355328 then some (.sown a (g + 1) (n + news.length), S.set a (.arr e sz fz (g + 1) (els ++ news))) else none
          | _ => none
        | .snil => if news.length * bytes ≤ 140737488355328 then some (.sown S.length 1 news.length, S ++ [.arr e sz 0 1 news]) else none
        | .sval true els => if news = [] then some (.sval true els, S) else
            if okEls sz els = true ∧ (els.length + news.length) * bytes ≤ 140737488355328 then some (.sown S.length 0 (els.length + news.length), S ++ [.arr e sz 0 0 (els ++ news)]) else none
        | _ => none) else none
    | none => none
  | _, _ => none
theorem okEls_append {sz : Nat} {a b : List AV} : okEls sz (a ++ b) = (okEls sz a && okEls sz b) := by simp [okEls]
theorem maxLen_of_bytes {n b : Nat} (hb : 0 < b) (h : n * b ≤ 140737488355328) : n ≤ maxLen := by
  have := Nat.le_trans (Nat.le_mul_of_pos_right n hb) h
  simp only [maxLen]; omega
theorem append_own (h : Rel w0 ι ψ S w) {a g n : Nat} {c : Value} {e : TypeId} {sz fz : Nat} {els news : List AV} {i : TypeInfo} {z : Value} {t tx ty : TypeId} {x : AV} {d : Value}
    (hs : VR ι ψ (.sown a g n) c) (hS : S[a]? = some (.arr e sz fz g els)) (hn : n = els.length) (ht : P.underlying t = some (.slice e)) (hi : P.info? e = some i) (hz : i.zero = some z) (hzs : z.cells.size = i.size)
    (hsz : sz = i.size) (hpos : 0 < i.size) (hbp : 0 < i.bytes) (hx : VR ι ψ x d) (hsrc : srcA P S tx x = some news) (hok : okEls i.size news = true) (hb : (n + news.length) * i.bytes ≤ 140737488355328) :
    ∃ ι' ψ' w' cv, (Builtin.append_ #[t, tx] ty #[c, d]).run P w = .ok cv w' ∧ Ext ι ψ ι' ψ' ∧ Rel w0 ι' ψ' (S.set a (.arr e sz fz (g + 1) (els ++ news))) w' ∧ VR ι' ψ' (.sown a (g + 1) (n + news.length)) cv := by
  subst hn hsz
  cases hs with
  | sown _ _ _ ad cap pl hpl hgl hs' =>
    have hB := h.blk a _ pl hS hpl
    obtain ⟨⟨hgen, hpsz⟩, hsize, _, hfz, ⟨xs, hown, hxs⟩, hps⟩ := hB
    have hsv := hs' hgen.symm
    obtain ⟨nv, hsrcV, hnl, hnv⟩ := srcA_sound h hx hsrc hok hpos
    obtain ⟨v', w', hr, hown', hgr, ⟨ad', cap', hv'⟩, hplace⟩ := run_append_own_src (w := w) w0.heap.size t tx ty e i z ht hi hz hzs pl.sv els.length xs hown d news.length nv hsrcV (maxLen_of_bytes hbp hb) hb h.n0
    rw [← hsv] at hr
    let pl' : Pl := ⟨pl.blk, g + 1, v', i.size⟩
    have hxl : xs.length = els.length * i.size := hown.1
    obtain ⟨ψ', hle, hm', hsub, hroof⟩ : ∃ ψ' : Psi, ψ.le ψ' ∧ ψ'.m = ψ.m ∧
        (∀ k o, ψ'.c k o = ψ.c k o ∨ (v'.ownBlock = some k ∧ k = w.heap.size ∧ pl.sv.ownBlock ≠ some k ∧ ψ'.c k o = (xs.take (fz * i.size))[o]?)) ∧
        (∀ k, v'.ownBlock = some k → (pl.sv.ownBlock = some k ∧ ∀ o, ψ'.c k o = ψ.c k o) ∨ (k = w.heap.size ∧ ∀ o, ψ'.c k o = (xs.take (fz * i.size))[o]?)) := by
      rcases hplace with hp | ⟨hp, _⟩
      · exact ⟨ψ, Psi.le_refl _, rfl, fun _ _ => .inl rfl, fun k hk => .inl ⟨by rw [← hp]; exact hk, fun _ => rfl⟩⟩
      · have hne : pl.sv.ownBlock ≠ some w.heap.size := fun hk => by
          have := (h.blk a _ pl hS hpl).at_lt (k := w.heap.size) hk; omega
        refine ⟨ψ.addRow w.heap.size (xs.take (fz * i.size)), Psi.le_addRow (fun o v e => by rw [h.psi_new (Nat.le_refl _)] at e; cases e), rfl, fun k o => ?_, fun k hk => ?_⟩
        · by_cases hk : k = w.heap.size
          · subst hk; exact .inr ⟨hp, rfl, hne, by simp [Psi.addRow]⟩
          · exact .inl (by simp [Psi.addRow, hk])
        · rw [hp] at hk; cases hk
          exact .inr ⟨rfl, fun o => by simp [Psi.addRow]⟩
    have hext : Ext ι ψ (ι.set a pl') ψ' := by
      refine ⟨fun j p hj => ?_, hle⟩
      by_cases hja : j = a
      · subst hja
        rw [hpl] at hj; cases hj
        have hlt : j < ι.length := (List.getElem?_eq_some_iff.1 hpl).1
        exact ⟨pl', by simp [hlt], rfl, by simp [pl', hgen], fun e => by simp [pl', hgen] at e⟩
      · exact ⟨p, by rw [List.getElem?_set_ne (by omega)]; exact hj, rfl, Nat.le_refl _, fun _ => rfl⟩
    have hltS : a < ι.length := (List.getElem?_eq_some_iff.1 hpl).1
    have hfzb : fz * i.size ≤ xs.length := by rw [hxl]; exact Nat.mul_le_mul_right _ hfz
    refine ⟨ι.set a pl', ψ', w', v', hr, hext, ?_, ?_⟩
    · refine h.update hS hpl ?_ ?_ hext ?_ ?_ ?_ hm'
      · refine ⟨hgr.os, hgr.tape, hgr.output, hgr.size, fun k hk => hgr.block k (Nat.lt_of_lt_of_le hk h.n0) fun e => ?_⟩
        have := (h.blk a _ pl hS hpl).at_lt (k := k) e.symm; omega
      · intro k hk hlt
        exact hgr.block k hlt (fun e => hk e.symm)
      · refine ⟨⟨rfl, rfl⟩, ?_, hpos, by simp; omega, ⟨xs ++ nv, by simpa using hown', fun j x e => ?_⟩, fun k o hk ho => ?_⟩
        · intro x hx
          rcases List.mem_append.1 hx with hx | hx
          · exact hsize x hx
          · exact okEls_len hok x hx
        · rw [flat_append] at e
          have hfl : (flat els).length = xs.length := by rw [flat_length hsize, hxl]
          by_cases hj : j < (flat els).length
          · rw [List.getElem?_append_left hj] at e
            obtain ⟨hlf, v, hv, hvr, hfr⟩ := hxs j x e
            refine ⟨hlf, v, by rw [List.getElem?_append_left (by omega)]; exact hv, hvr.mono hext, fun hjf k hk => ?_⟩
            rcases hroof k hk with ⟨hk2, ho⟩ | ⟨rfl, ho⟩
            · rw [ho]; exact hfr hjf k hk2
            · rw [ho, List.getElem?_take, if_pos hjf]; exact hv
          · rw [List.getElem?_append_right (by omega)] at e
            obtain ⟨v, hv, hvr⟩ := hnv _ x e
            refine ⟨okEls_leaf hok e, v, by rw [List.getElem?_append_right (by omega), ← hfl]; exact hv, hvr.mono hext, fun hjf => by omega⟩
        · rcases hroof k hk with ⟨hk2, ho2⟩ | ⟨rfl, ho2⟩
          · rw [ho2]; exact hps k o hk2 ho
          · rw [ho2]; simp; omega
      · intro k hk
        rcases hroof k hk with ⟨hk2, _⟩ | ⟨rfl, _⟩
        · exact .inl hk2
        · exact .inr (Nat.le_refl _)
      · intro k o v e
        rcases hsub k o with hs1 | ⟨hk1, hk2, hk3, hs1⟩
        · rw [hs1] at e
          by_cases hk : pl.sv.ownBlock = some k
          · -- a frozen cell of the old row
            have ho : o < fz * i.size := Nat.lt_of_not_le fun hge => by rw [hps k o hk hge] at e; cases e
            have hof : o < (flat els).length := by rw [flat_length hsize]; omega
            obtain ⟨_, v2, hv2, _, hfr⟩ := hxs o _ (List.getElem?_eq_getElem hof)
            rw [hfr ho k hk] at e; cases e
            refine .inr ⟨.inl hk, ?_⟩
            rcases hplace with hp | ⟨hp, hgn⟩
            · have := hown'.cells (g := k) (by rw [hp]; exact hk) o v (by rw [List.getElem?_append_left (by omega)]; exact hv2)
              rw [Addr.add_lit, Nat.zero_add] at this; exact this
            · have hlt := ((h.blk a _ pl hS hpl).at_lt (k := k) hk).2
              rw [World.cell?_of_block (hgn.block k hlt (by simp))]
              have := hown.cells (g := k) hk o v hv2
              rw [Addr.add_lit, Nat.zero_add] at this; exact this
          · exact .inl ⟨e, hk⟩
        · rw [hs1] at e
          have ho : o < fz * i.size := by
            have := (List.getElem?_eq_some_iff.1 e).1; simp at this; omega
          rw [List.getElem?_take, if_pos ho] at e
          refine .inr ⟨.inr (by omega), ?_⟩
          have := hown'.cells (g := k) hk1 o v (by rw [List.getElem?_append_left (by omega)]; exact e)
          rw [Addr.add_lit, Nat.zero_add] at this; exact this
    · rw [hv']
      exact .sown a (g + 1) _ ad' cap' pl' (by simp [hltS]) (Nat.le_refl _) (fun _ => hv'.symm)
end Go.Fen
namespace Go.Fen
open Go.RowKit
variable {P : Program} {w0 w w' : World} {ι : List Pl} {ψ : Psi} {S : List Blk}
theorem cells_agg (cs : List AV) : (AV.agg cs).cells = cs := rfl
theorem flat_at {els : List AV} {sz : Nat} (h : ∀ x ∈ els, x.cells.length = sz) (hp : 0 < sz) (k : Nat) : (flat els)[k]? = (els[k / sz]?).bind (fun e => e.cells[k % sz]?) := by
  cases hx : (flat els)[k]? with
  | some x =>
    obtain ⟨e, h1, h2⟩ := flat_inv h hp hx
    simp [h1, h2]
  | none =>
    have hl := flat_length h
    have : els.length * sz ≤ k := by rw [← hl]; simpa using hx
    have hge : els.length ≤ k / sz := (Nat.le_div_iff_mul_le hp).2 this
    rw [List.getElem?_eq_none hge]; rfl
theorem Rel.newArr (h : Rel w0 ι ψ S w) (e : TypeId) (sz n cap : Nat) (els : List AV) (cur : Array Value) (hn : n = els.length) (hok : okEls sz els = true) (hpos : 0 < sz) (hcap : n ≤ cap) (hm : cap ≤ maxLen) (hc : cur.size = cap * sz)
    (hv : ∀ (j : Nat) (x : AV), (flat els)[j]? = some x → ∃ v, cur[j]? = some v ∧ VR ι ψ x v) :
    Rel w0 (ι ++ [⟨0, 0, .slice (some ⟨w.heap.size, 0, none⟩) n cap, sz⟩]) ψ (S ++ [.arr e sz 0 0 els]) (w.alloc (.cells cur e)) := by
  subst hn
  have h1 := h.alloc (.cells cur e)
  have hfl := flat_length (okEls_len hok)
  have hle : els.length * sz ≤ cur.size := by rw [hc]; exact Nat.mul_le_mul_right _ hcap
  refine h1.push _ _ ⟨⟨rfl, rfl⟩, okEls_len hok, hpos, Nat.zero_le _, ⟨cur.toList.take (els.length * sz), ⟨by simp; omega, .inr ⟨w.heap.size, cap, cur, rfl, h.n0, heap_alloc_new w _, hcap, hm, hc, rfl⟩⟩, fun j x ex => ?_⟩, fun k o hk _ => ?_⟩ ?_
  · obtain ⟨v, hv1, hv2⟩ := hv j x ex
    have hj : j < els.length * sz := by rw [← hfl]; exact (List.getElem?_eq_some_iff.1 ex).1
    exact ⟨okEls_leaf hok ex, v, by rw [List.getElem?_take, if_pos hj]; simpa using hv1, hv2.mono (Ext.push ι ψ _), fun hlt => by omega⟩
  · simp [Value.ownBlock] at hk
    subst hk
    exact h.psi_new (Nat.le_refl _) o
  · intro k hk i C q hC hq hk2
    simp [Blk.at, Value.ownBlock] at hk
    subst hk
    have := ((h.blk i C q hC hq).at_lt hk2).2
    omega
theorem append_full (h : Rel w0 ι ψ S w) {els news : List AV} {c : Value} {e : TypeId} {i : TypeInfo} {z : Value} {t tx ty : TypeId} {x : AV} {d : Value}
    (hs : VR ι ψ (.sval true els) c) (ht : P.underlying t = some (.slice e)) (hi : P.info? e = some i) (hz : i.zero = some z) (hzs : z.cells.size = i.size)
    (hpos : 0 < i.size) (hbp : 0 < i.bytes) (hx : VR ι ψ x d) (hsrc : srcA P S tx x = some news) (hok : okEls i.size news = true) (hok2 : okEls i.size els = true) (hne : news ≠ []) (hb : (els.length + news.length) * i.bytes ≤ 140737488355328) :
    ∃ ι' w' cv, (Builtin.append_ #[t, tx] ty #[c, d]).run P w = .ok cv w' ∧ Ext ι ψ ι' ψ ∧ Rel w0 ι' ψ (S ++ [.arr e i.size 0 0 (els ++ news)]) w' ∧ VR ι' ψ (.sown S.length 0 (els.length + news.length)) cv := by
  obtain ⟨nv, hsrcV, hnl, hnv⟩ := srcA_sound h hx hsrc hok hpos
  obtain ⟨ov, hsrcO, hol, hov⟩ := srcA_sound (P := P) (tx := t) h hs (by simp [srcA, ht]) hok2 hpos
  obtain ⟨a, cap, rfl, hcap, hf⟩ := hs.sval_len
  have hcap' := hf rfl
  subst hcap'
  have hml := maxLen_of_bytes hbp hb
  have hlt : 0 < news.length := List.length_pos_iff.2 hne
  have hsmall : ((els.length + news.length : Nat) : Int) ≤ 9223372036854775807 := by simp only [maxLen] at hml; omega
  have hr := run_append_grow_src (P := P) w t tx ty e i z ht hi hz a els.length els.length ov hsrcO.cellsD d news.length nv hsrcV (by omega) hsmall (growslice_fits (by omega) hb)
  have hge := grownCap_ge w (els.length + news.length) els.length e
  have hcm := grownCap_le_maxLen w (els.length + news.length) els.length e hml
  have hfe := flat_length (okEls_len hok2)
  have hfn := flat_length (okEls_len hok)
  have key := h.drew.newArr e i.size (els.length + news.length) (grownCap w (els.length + news.length) els.length e) (els ++ news)
    ((ov ++ nv).toArray ++ Builtin.zeroCells z.cells (grownCap w (els.length + news.length) els.length e - (els.length + news.length))) (by simp) (by rw [okEls_append, hok, hok2]; rfl) hpos hge hcm ?_ ?_
  · refine ⟨_, _, _, hr, Ext.push ι ψ _, key, ?_⟩
    refine .sown _ _ _ _ _ ⟨0, 0, .slice (some ⟨w.heap.size, 0, none⟩) (els.length + news.length) (grownCap w (els.length + news.length) els.length e), i.size⟩ ?_ (Nat.le_refl _) (fun _ => rfl)
    rw [← h.len]; simp
  · simp only [Array.size_append, List.size_toArray, size_zeroCells, hzs, List.length_append, hol, hnl, hfe, hfn, ← Nat.add_mul]
    congr 1; omega
  · intro j x ex
    rw [flat_append] at ex
    have hget : ∀ v : Value, (ov ++ nv)[j]? = some v → ((ov ++ nv).toArray ++ Builtin.zeroCells z.cells (grownCap w (els.length + news.length) els.length e - (els.length + news.length)))[j]? = some v := by
      intro v hv
      have hlt := (List.getElem?_eq_some_iff.1 hv).1
      rw [Array.getElem?_append_left (by simpa using hlt)]
      simpa using hv
    by_cases hj : j < (flat els).length
    · rw [List.getElem?_append_left hj] at ex
      obtain ⟨v, hv, hvr⟩ := hov j x ex
      exact ⟨v, hget v (by rw [List.getElem?_append_left (by omega)]; exact hv), hvr⟩
    · rw [List.getElem?_append_right (by omega)] at ex
      obtain ⟨v, hv, hvr⟩ := hnv _ x ex
      exact ⟨v, hget v (by rw [List.getElem?_append_right (by omega), hol]; exact hv), hvr⟩
theorem append_none (h : Rel w0 ι ψ S w) {full : Bool} {els : List AV} {c : Value} {e : TypeId} {i : TypeInfo} {t tx ty : TypeId} {x : AV} {d : Value}
    (hs : VR ι ψ (.sval full els) c) (ht : P.underlying t = some (.slice e)) (hi : P.info? e = some i) (hpos : 0 < i.size) (hx : VR ι ψ x d) (hsrc : srcA P S tx x = some []) :
    (Builtin.append_ #[t, tx] ty #[c, d]).run P w = .ok c w := by
  obtain ⟨nv, hsrcV, hnl, _⟩ := srcA_sound h hx hsrc (sz := i.size) rfl hpos
  have : nv = [] := List.eq_nil_of_length_eq_zero (by rw [hnl]; rfl)
  subst this
  obtain ⟨a, cap, rfl, hcap, _⟩ := hs.sval_len
  have hc := hsrcV.cells
  have hl := hsrcV.len
  simp only [List.length_nil] at hc hl
  rcases hsrcV.kind with ⟨e', hk⟩ | hk <;> cases a <;> simp [Builtin.append_, run_underlying ht, run_underlying hk, sizeOf, typeInfo, hi, hl, hc, hcap, storeCells]
theorem Rel.thaw (h : Rel w0 ι ψ S w) (e : TypeId) (sz : Nat) (hpos : 0 < sz) : Rel w0 (ι ++ [⟨0, 0, .slice none 0 0, sz⟩]) ψ (S ++ [.arr e sz 0 0 []]) w := by
  refine h.push _ _ ⟨⟨rfl, rfl⟩, by simp, hpos, Nat.le_refl _, ⟨[], World.ownsRow_nil w _ e sz, fun j x ex => by simp [flat] at ex⟩, fun k o hk _ => by simp [Value.ownBlock] at hk⟩ ?_
  intro k hk
  simp [Blk.at, Value.ownBlock] at hk
theorem srcA_push {B : Blk} {tx : TypeId} {x : AV} {els : List AV} (h : srcA P S tx x = some els) : srcA P (S ++ [B]) tx x = some els := by
  unfold srcA at h ⊢
  split at h
  · exact h
  · exact h
  · next e a g n hu =>
    split at h
    · next e' sz fz g' els' hS =>
      rw [List.getElem?_append_left (List.getElem?_eq_some_iff.1 hS).1, hS]
      exact h
    · cases h
  · exact h
  · cases h
theorem appendA_sound (h : Rel w0 ι ψ S w) {t tx ty : TypeId} {s x r : AV} {c d : Value} {S' : List Blk} (hs : VR ι ψ s c) (hx : VR ι ψ x d) (he : appendA P S t tx s x = some (r, S')) :
    ∃ ι' ψ' w' cv, (Builtin.append_ #[t, tx] ty #[c, d]).run P w = .ok cv w' ∧ Ext ι ψ ι' ψ' ∧ Rel w0 ι' ψ' S' w' ∧ VR ι' ψ' r cv := by
  unfold appendA at he
  split at he
  · next e news hu hsrc =>
    split at he
    · next sz bytes zs hei =>
      obtain ⟨i, z, hi, hz, rfl, rfl, rfl⟩ := einfo_spec hei
      split at he
      · next hc =>
        obtain ⟨hok, hpos, hbp, hzs⟩ := hc
        split at he
        · next a g n =>
          split at he
          · next e' sz fz g' els hS =>
            split at he
            · next hcond =>
              obtain ⟨rfl, rfl, rfl, rfl, hb⟩ := hcond
              simp at he
              obtain ⟨rfl, rfl⟩ := he
              exact append_own h hs hS rfl hu hi hz hzs rfl hpos hbp hx hsrc hok hb
            · cases he
          · cases he
        · split at he
          · next hb =>
            simp at he
            obtain ⟨rfl, rfl⟩ := he
            have hth := h.thaw e i.size hpos
            cases hs with
            | snil =>
              have hsv : VR (ι ++ [⟨0, 0, .slice none 0 0, i.size⟩]) ψ (.sown S.length 0 0) (.slice none 0 0) :=
                .sown _ _ _ _ _ ⟨0, 0, .slice none 0 0, i.size⟩ (by rw [← h.len]; simp) (Nat.le_refl _) (fun _ => rfl)
              obtain ⟨ι', ψ', w', cv, k1, k2, k3, k4⟩ := append_own (P := P) (ty := ty) hth hsv (els := []) (news := news) (fz := 0) (by simp) rfl hu hi hz hzs rfl hpos hbp (hx.mono (Ext.push ι ψ _)) (srcA_push hsrc) hok (by simpa using hb)
              refine ⟨ι', ψ', w', cv, k1, (Ext.push ι ψ _).trans k2, ?_, by simpa using k4⟩
              simpa using k3
          · cases he
        · next els =>
          split at he
          · next hn =>
            subst hn
            simp at he
            obtain ⟨rfl, rfl⟩ := he
            exact ⟨ι, ψ, w, c, append_none h hs hu hi hpos hx hsrc, Ext.refl _ _, h, hs⟩
          · next hn =>
            split at he
            · next hcond =>
              simp at he
              obtain ⟨rfl, rfl⟩ := he
              obtain ⟨ι', w', cv, h1, h2, h3, h4⟩ := append_full (P := P) (ty := ty) h hs hu hi hz hzs hpos hbp hx hsrc hok hcond.1 hn hcond.2
              exact ⟨ι', ψ, w', cv, h1, h2, h3, h4⟩
            · cases he
        · cases he
      · cases he
    · cases he
  · cases he
def allLeaf (cs : List AV) : Bool := cs.all AV.leaf
theorem allLeaf_get {cs : List AV} (h : allLeaf cs = true) {j : Nat} {x : AV} (hx : cs[j]? = some x) : x.leaf = true := List.all_eq_true.1 h x (List.mem_of_getElem? hx)
theorem CR.newCells (h : Rel w0 ι ψ S w) {cs : List AV} {c : Array Value} (hc : CR ι ψ cs c) (hl : allLeaf cs = true) (T : TypeId) (ty : Option TypeId := none) (hty : ∀ t, ty = some t → T = t := by intro t e; cases e) :
    Rel w0 (ι ++ [⟨w.heap.size, 0, undef, 0⟩]) ψ (S ++ [.cells cs ty]) (w.alloc (.cells c T)) ∧ VR (ι ++ [⟨w.heap.size, 0, undef, 0⟩]) ψ (.own S.length 0) (.pointer (some ⟨w.heap.size, 0, none⟩)) := by
  refine ⟨h.newCells cs c T hc.1.symm (fun j x e => ⟨allLeaf_get hl e, hc.2 j x e⟩) ty hty, ?_⟩
  have := VR.own (ι := ι ++ [⟨w.heap.size, 0, undef, 0⟩]) (ψ := ψ) S.length 0 ⟨w.heap.size, 0, undef, 0⟩ (by rw [← h.len]; simp)
  exact this
def storeA (P : Program) (S : List Blk) (t : TypeId) (x v : AV) : Option (List Blk) :=
  match sizeT P t, x with
  | some n, .own a off => match S[a]? with
    | some (.cells cs ty) => if v.cells.length = n ∧ v.isJunk = false ∧ allLeaf v.cells = true ∧ off + n ≤ cs.length then some (S.set a (.cells (splice cs off v.cells) ty)) else none
    | _ => none
  | some n, .oel a g i off => match S[a]? with
    | some (.arr e sz fz g' els) => match els[i]? with
      | some el => if g = g' ∧ fz ≤ i ∧ v.cells.length = n ∧ v.isJunk = false ∧ allLeaf v.cells = true ∧ off + n ≤ sz then
          some (S.set a (.arr e sz fz g (els.set i (if n = sz then v else .agg (splice el.cells off v.cells))))) else none
      | none => none
    | _ => none
  | _, _ => none
theorem CR.oneCell {x : AV} {c : Value} (hx : VR ι ψ x c) (hj : x.isJunk = false) (hl : allLeaf x.cells = true) : ∀ v ∈ c.cells.toList, v.oneCell' = true := by
  obtain ⟨hs, hv⟩ := hx.cells (by intro e; subst e; simp [AV.isJunk] at hj)
  intro v hm
  obtain ⟨j, hjv⟩ := List.getElem?_of_mem hm
  have hlt : j < x.cells.length := by rw [← hs]; have := (List.getElem?_eq_some_iff.1 hjv).1; simpa using this
  obtain ⟨v', h1, h2⟩ := hv j _ (List.getElem?_eq_getElem hlt)
  simp at hjv
  rw [hjv] at h1; cases h1
  exact h2.oneCell (allLeaf_get hl (List.getElem?_eq_getElem hlt))
theorem storeA_sound (h : Rel w0 ι ψ S w) {t : TypeId} {x v : AV} {c d : Value} {S' : List Blk} (hx : VR ι ψ x c) (hv : VR ι ψ v d) (he : storeA P S t x v = some S') :
    ∃ w', (Instr.storeAt t c d).run P w = .ok () w' ∧ Rel w0 ι ψ S' w' := by
  unfold storeA at he
  split at he
  · next n a off hn =>
    split at he
    · next cs ty hS =>
      split at he
      · next hc =>
        obtain ⟨h1, h2, h3, h4⟩ := hc
        simp at he; subst he
        cases hx with
        | own _ _ pl hpl =>
          obtain ⟨hs, hvv⟩ := hv.cells (by intro e; subst e; simp [AV.isJunk] at h2)
          obtain ⟨w', hr, hR⟩ := h.storeCells (P := P) hS hpl off v.cells d.cells.toList (by simp [hs]) (fun j x e => ⟨allLeaf_get h3 e, by simpa using hvv j x e⟩) (CR.oneCell hv h2 h3) (by omega)
          refine ⟨w', ?_, hR⟩
          simp [Instr.storeAt, Instr.sureAddr, storeVar, run_sizeOf hn, hs, h1, hr]
      · cases he
    · cases he
  · next n a g i off hn =>
    split at he
    · next e sz fz g' els hS =>
      split at he
      · next el hel =>
        split at he
        · next hc =>
          obtain ⟨rfl, hfi, h1, h2, h3, h4⟩ := hc
          simp at he; subst he
          cases hx with
          | oel _ _ _ _ ad pl hpl hgl hs' =>
            have hB := h.blk a _ pl hS hpl
            obtain ⟨⟨hgen, hpsz⟩, hsize, hpos, hfz, ⟨xs, hown, hxs⟩, hps⟩ := hB
            obtain ⟨b, hb, rfl⟩ := hs' hgen.symm
            obtain ⟨hs, hvv⟩ := hv.cells (by intro e; subst e; simp [AV.isJunk] at h2)
            rcases hown.2 with ⟨hnil, _⟩ | ⟨b', cap, cur, hsv, hbg, hg, hnc, hcm, hcs, htake⟩
            · rw [hnil] at hb; simp [Value.ownBlock] at hb
            · have hbb : b' = b := by rw [hsv] at hb; simpa [Value.ownBlock] using hb
              subst hbb
              have hil : i < els.length := (List.getElem?_eq_some_iff.1 hel).1
              have hell : el.cells.length = sz := hsize el (List.mem_of_getElem? hel)
              have hbound : i * sz + sz ≤ els.length * sz := by rw [← Nat.succ_mul]; exact Nat.mul_le_mul_right _ hil
              have hcur : els.length * sz ≤ cur.size := by rw [hcs]; exact Nat.mul_le_mul_right _ hnc
              have hst := run_storeCells_at P b' (i * sz + off) e d.cells.toList 0 cur w hg (by simp [hs]; omega) (CR.oneCell hv h2 h3)
              simp only [Nat.add_zero] at hst
              have hrun : (Instr.storeAt t (.pointer (some ⟨b', i * sz + off, none⟩)) d).run P w = (Go.storeCells ⟨b', i * sz + off, none⟩ d.cells.toList).run P w := by
                simp [Instr.storeAt, Instr.sureAddr, storeVar, run_sizeOf hn, hs, h1]
              refine ⟨_, by rw [hpsz]; exact hrun.trans hst, ?_⟩
              have hset : ι.set a pl = ι := set_self hpl
              let el' : AV := if n = sz then v else .agg (splice el.cells off v.cells)
              have hcells : ∀ j, el'.cells[j]? = if off ≤ j ∧ j < off + n then v.cells[j - off]? else el.cells[j]? := by
                intro j
                by_cases hnsz : n = sz
                · have hoff : off = 0 := by omega
                  subst hoff
                  simp only [el', if_pos hnsz, Nat.zero_le, true_and, Nat.zero_add, Nat.sub_zero]
                  split
                  · rfl
                  · rw [List.getElem?_eq_none (by omega), List.getElem?_eq_none (by omega)]
                · simp only [el', if_neg hnsz, cells_agg]
                  rw [splice, getElem?_splice el.cells v.cells off j (by omega), h1]
              have hlen' : el'.cells.length = sz := by
                by_cases hnsz : n = sz
                · simp only [el', if_pos hnsz]; omega
                · simp only [el', if_neg hnsz, cells_agg, splice, List.length_append, List.length_take, List.length_drop]; omega
              have hsize' : ∀ x ∈ els.set i el', x.cells.length = sz := by
                intro x hx
                rcases List.mem_or_eq_of_mem_set hx with hx | rfl
                · exact hsize x hx
                · exact hlen'
              have hxl : xs.length = els.length * sz := hown.1
              have hget2 := fun j => getElem?_splice cur.toList d.cells.toList (i * sz + off) j (by simp [hs]; omega)
              have key := h.update (w' := w.setRow b' (List.take (i * sz + off) cur.toList ++ d.cells.toList ++ List.drop (i * sz + off + d.cells.toList.length) cur.toList).toArray) (ψ' := ψ) (B' := .arr e sz fz g (els.set i el')) (pl' := pl) hS hpl ?_ ?_ ?_ ?_ ?_ ?_ rfl
              · rw [hset] at key; exact key
              · exact ⟨rfl, rfl, rfl, by simp [World.setRow], fun k hk => setRow_other w _ k _ (by omega)⟩
              · intro k hk _
                exact setRow_other w _ k _ (fun e => hk (by subst e; exact hb))
              · rw [hset]; exact Ext.refl _ _
              · rw [hset]
                refine ⟨⟨hgen, hpsz⟩, hsize', hpos, by simpa using hfz, ⟨_, ⟨?_, .inr ⟨b', cap, _, by rw [hsv]; simp, hbg, setRow_heap w b' cur _ e (0, 0) hg, by simpa using hnc, hcm, ?_, rfl⟩⟩, fun j x ex => ?_⟩, hps⟩
                · simp; omega
                · simp [hs]; omega
                · rw [flat_at hsize' hpos] at ex
                  have hj : j < els.length * sz := by
                    cases hq : (els.set i el')[j / sz]? with
                    | none => rw [hq] at ex; simp at ex
                    | some e' =>
                      have := (List.getElem?_eq_some_iff.1 hq).1
                      rw [List.length_set] at this
                      exact (Nat.div_lt_iff_lt_mul hpos).1 this
                  have hxsj : ∀ v : Value, xs[j]? = some v → cur.toList[j]? = some v := by
                    intro v hv
                    have hj2 : j < els.length * sz := by rw [← hxl]; exact (List.getElem?_eq_some_iff.1 hv).1
                    rw [← htake, List.getElem?_take, if_pos hj2] at hv
                    exact hv
                  simp only [List.getElem?_take]
                  rw [if_pos (by simpa using hj), hget2 j]
                  have hmod := Nat.div_add_mod' j sz
                  have hmlt := Nat.mod_lt j hpos
                  by_cases hji : j / sz = i
                  · rw [hji, List.getElem?_set_self hil] at ex
                    simp only [Option.bind_some] at ex
                    rw [hcells] at ex
                    rw [hji] at hmod
                    by_cases hin : off ≤ j % sz ∧ j % sz < off + n
                    · rw [if_pos hin] at ex
                      rw [if_pos (by simp [hs]; omega)]
                      obtain ⟨v', e1, e2⟩ := hvv _ x ex
                      refine ⟨allLeaf_get h3 ex, v', ?_, e2, fun hlt => ?_⟩
                      · rw [show j - (i * sz + off) = j % sz - off by omega]; simpa using e1
                      · have : fz * sz ≤ i * sz := Nat.mul_le_mul_right _ hfi
                        omega
                    · rw [if_neg hin] at ex
                      rw [if_neg (by simp [hs]; omega)]
                      have hfj : (flat els)[j]? = some x := by rw [flat_at hsize hpos, hji, hel]; exact ex
                      obtain ⟨hl, v', e1, e2, e3⟩ := hxs j x hfj
                      exact ⟨hl, v', hxsj v' e1, e2, e3⟩
                  · rw [List.getElem?_set_ne (Ne.symm hji)] at ex
                    have hfj : (flat els)[j]? = some x := by rw [flat_at hsize hpos]; exact ex
                    obtain ⟨hl, v', e1, e2, e3⟩ := hxs j x hfj
                    refine ⟨hl, v', ?_, e2, e3⟩
                    rw [if_neg]
                    · exact hxsj v' e1
                    · simp only [Array.length_toList, hs, h1, not_and, Nat.not_lt]
                      intro hge
                      rcases Nat.lt_or_gt_of_ne hji with hlt | hgt
                      · have : (j / sz + 1) * sz ≤ i * sz := Nat.mul_le_mul_right _ hlt
                        rw [Nat.succ_mul] at this; omega
                      · have : (i + 1) * sz ≤ j / sz * sz := Nat.mul_le_mul_right _ hgt
                        rw [Nat.succ_mul] at this; omega
              · intro k hk; exact .inl hk
              · intro k o v' ev
                by_cases hk : pl.sv.ownBlock = some k
                · have ho : o < fz * sz := Nat.lt_of_not_le fun hge => by rw [hps k o hk hge] at ev; cases ev
                  have hkb : k = b' := by rw [hb] at hk; cases hk; rfl
                  subst hkb
                  have hfl := flat_length hsize
                  have hfb : fz * sz ≤ els.length * sz := Nat.mul_le_mul_right _ hfz
                  obtain ⟨_, v2, e1, _, e3⟩ := hxs o _ (List.getElem?_eq_getElem (show o < (flat els).length by omega))
                  rw [e3 ho k hk] at ev; cases ev
                  refine .inr ⟨.inl hk, ?_⟩
                  rw [cell_setRow_same w k o cur _ e (0, 0) hg]
                  simp only [List.getElem?_toArray]
                  rw [hget2 o, if_neg]
                  · rw [← htake, List.getElem?_take, if_pos (by omega)] at e1
                    exact e1
                  · have : fz * sz ≤ i * sz := Nat.mul_le_mul_right _ hfi
                    omega
                · exact .inl ⟨ev, hk⟩
        · cases he
      · cases he
    · cases he
  · cases he
end Go.Fen
namespace Go.Fen
open Go.RowKit Go.MapKept
variable {P : Program} {w0 w w' : World} {ι : List Pl} {ψ : Psi} {S : List Blk}
theorem Rel.psim_new (h : Rel w0 ι ψ S w) {b : Nat} (hb : w.heap.size ≤ b) : ψ.m b = none := by
  cases e : ψ.m b with
  | none => rfl
  | some es =>
    obtain ⟨hc, _⟩ := h.psim b es.1 es.2 e
    have := lt_of_heap hc
    omega
theorem Rel.newBlk (h : Rel w0 ι ψ S w) (o : Obj) (B : Blk) (hat : ∀ pl : Pl, B.at pl = some pl.blk) (hB : BRel w0.heap.size (ι ++ [⟨w.heap.size, 0, undef, 0⟩]) ψ (w.alloc o) ⟨w.heap.size, 0, undef, 0⟩ B) :
    Rel w0 (ι ++ [⟨w.heap.size, 0, undef, 0⟩]) ψ (S ++ [B]) (w.alloc o) := by
  refine (h.alloc o).push _ _ hB fun k hk i C q hC hq hk2 => ?_
  rw [hat] at hk
  simp at hk
  subst hk
  have := ((h.blk i C q hC hq).at_lt hk2).2
  omega
theorem Rel.putBlk (h : Rel w0 ι ψ S w) {m : Nat} {B B' : Blk} {o : Obj} {pl : Pl} (hi : S[m]? = some B) (hpl : ι[m]? = some pl) (hat : B.at pl = some pl.blk) (hat' : B'.at pl = some pl.blk)
    (hc : ∀ k, ψ.c pl.blk k = none) (hfz : ∀ es, B ≠ .mp true es) (hB' : BRel w0.heap.size ι ψ (w.putObj pl.blk o) pl B') : Rel w0 ι ψ (S.set m B') (w.putObj pl.blk o) := by
  have hB := h.blk m _ pl hi hpl
  have h0 := (hB.at_lt hat).1
  have hset : ι.set m pl = ι := set_self hpl
  have hoth : ∀ k, k ≠ pl.blk → (w.putObj pl.blk o).heap[k]? = w.heap[k]? := fun k hk => World.putObj_heap_other hk
  have key := h.update (w' := w.putObj pl.blk o) (ψ' := ψ) (B' := B') (pl' := pl) hi hpl ⟨rfl, rfl, rfl, by simp, fun k hk => hoth k (by omega)⟩ (fun k hk _ => hoth k (fun e => hk (by rw [hat, e])))
    (by rw [hset]; exact Ext.refl _ _) (by rw [hset]; exact hB') (fun k hk => .inl (by rw [hat', ← hat] at hk; exact hk)) (fun b ob v e => .inl ⟨e, fun hk => by
      rw [hat] at hk; cases hk; rw [hc ob] at e; cases e⟩) rfl (fun es he => absurd he (hfz es))
  rw [hset] at key; exact key
theorem cell_freeze (w : World) (a : Addr) (n : Nat) (ad : Addr) : (w.freeze a n).cell? ad = w.cell? ad := by
  unfold World.freeze
  by_cases hn : n = 0
  · rw [if_pos hn]
  · rw [if_neg hn]
    unfold World.cell?
    rw [Array.getElem?_modify]
    by_cases hb : a.block = ad.block
    · rw [if_pos hb]
      cases w.heap[ad.block]? with
      | none => rfl
      | some o => cases o <;> rfl
    · rw [if_neg hb]
def makeMapA (P : Program) (S : List Blk) (t : TypeId) (hint : Option AV) : Option (AV × List Blk) :=
  match hint with
  | none => some (.mown S.length, S ++ [.mp false []])
  | some (.int _ _) => match P.underlying t with
    | some (.map _ _) => some (.mown S.length, S ++ [.mp false []])
    | _ => none
  | _ => none
theorem makeMapA_sound (h : Rel w0 ι ψ S w) {t : TypeId} {hint : Option AV} {ch : Option Value} (hh : OptR ι ψ hint ch) {r : AV} {S' : List Blk} (he : makeMapA P S t hint = some (r, S')) :
    ∃ ι' w' cv, (Instr.makeMap t ch).run P w = .ok cv w' ∧ Ext ι ψ ι' ψ ∧ Rel w0 ι' ψ S' w' ∧ VR ι' ψ r cv := by
  have fin : (Instr.makeMap t ch).run P w = .ok (.map (some w.heap.size)) (w.alloc (.map #[] 0)) → (r, S') = (.mown S.length, S ++ [.mp false []]) →
      ∃ ι' w' cv, (Instr.makeMap t ch).run P w = .ok cv w' ∧ Ext ι ψ ι' ψ ∧ Rel w0 ι' ψ S' w' ∧ VR ι' ψ r cv := by
    intro hr e
    simp only [Prod.mk.injEq] at e
    obtain ⟨rfl, rfl⟩ := e
    refine ⟨ι ++ [⟨w.heap.size, 0, undef, 0⟩], _, _, hr, Ext.push ι ψ _, h.newBlk (.map #[] 0) (.mp false []) (fun _ => rfl) ⟨h.n0, by simp, ⟨#[], 0, [], World.alloc_heap_new w _, ⟨by simp, by simp⟩, .refl _, ⟨rfl, by simp⟩, by simpa using h.psim_new (Nat.le_refl _)⟩, fun k => h.psi_new (Nat.le_refl _) k⟩, ?_⟩
    have := VR.mown (ι := ι ++ [⟨w.heap.size, 0, undef, 0⟩]) (ψ := ψ) S.length ⟨w.heap.size, 0, undef, 0⟩ (by rw [← h.len]; simp)
    exact this
  unfold makeMapA at he
  split at he
  · cases ch with
    | some c => exact hh.elim
    | none => exact fin rfl (by simpa using he.symm)
  · next j n =>
    cases ch with
    | none => exact hh.elim
    | some c =>
      split at he
      · next kt et hu =>
        have := VR.int_inv hh
        subst this
        exact fin (by simp [Instr.makeMap, run_underlying hu, asInt, asIntOf, newObj, Sem.run]) (by simpa using he.symm)
      · cases he
  · cases he
def upsertA (k v : AV) (es : List (AV × AV)) : List (AV × AV) :=
  if es.any (fun e => keq k e.1) then es.map (fun e => if keq k e.1 then (k, v) else e) else es ++ [(k, v)]
def mapUpdateA (P : Program) (S : List Blk) (t : TypeId) (m k v : AV) : Option (List Blk) :=
  match P.underlying t, m with
  | some (.map kt _), .mown a => match S[a]? with
    | some (.mp false es) => if (keyA P kt k && es.all fun e => keyA P kt e.1) = true then some (S.set a (.mp false (upsertA k v es))) else none
    | _ => none
  | _, _ => none
theorem mapUpdateA_sound (h : Rel w0 ι ψ S w) {t : TypeId} {m k v : AV} {cm ck cv : Value} {S' : List Blk} (hm : VR ι ψ m cm) (hk : VR ι ψ k ck) (hv : VR ι ψ v cv) (he : mapUpdateA P S t m k v = some S') :
    ∃ w', (Instr.mapUpdate t cm ck cv).run P w = .ok () w' ∧ Rel w0 ι ψ S' w' := by
  unfold mapUpdateA at he
  split at he
  · next kt et a hu =>
    split at he
    · next es hS =>
      split at he
      · next hc =>
        simp only [Bool.and_eq_true, List.all_eq_true] at hc
        simp only [Option.some.injEq] at he
        subst he
        cases hm with
        | mown _ pl hpl =>
          obtain ⟨h0, hn, ⟨me, clk, l, h1, h2, h3, h4, h5⟩, h6⟩ := h.blk a _ pl hS hpl
          have h5' : ψ.m pl.blk = none := by simpa using h5
          have hck : (Instr.checkKey false 10000 kt ck).run P w = .ok () w := key_check hc.1 hk false w
          rcases find_spec (P := P) hk h3 hn h4 hc.1 hc.2 with ⟨e1, e2⟩ | ⟨j, e, m, e1, e2, e3, e4, e5, e6⟩
          · have hany : es.any (fun e => keq k e.1) = false := by
              rw [List.any_eq_false]
              exact List.find?_eq_none.1 e1
            have hf := e2 w
            refine ⟨w.putObj pl.blk (.map (me.push { key := ck, val := cv, born := clk }) (clk + 1)), ?_, ?_⟩
            · simp [Instr.mapUpdate, run_underlying hu, MapKept.run_getObj_map h1, hck, hf, run_setObj_map _ h1, World.putObj]
            · rw [upsertA, if_neg (by simp [hany])]
              refine h.putBlk hS hpl rfl rfl h6 (by intro es' e; cases e) ⟨h0, ?_, ⟨_, _, l ++ [(k, v)], World.putObj_heap_same (lt_of_heap h1), ?_, h3.append_right _, ?_, by simpa using h5'⟩, h6⟩
              · rw [List.map_append, List.nodup_append]
                refine ⟨hn, by simp, ?_⟩
                intro x hx y hy
                simp at hy; subst hy
                obtain ⟨e, hem, rfl⟩ := List.mem_map.1 hx
                intro hxk
                have := List.find?_eq_none.1 e1 e hem
                exact this ((keq_iff hc.1 (hc.2 e hem)).2 hxk.symm)
              · refine ⟨fun m hm => ?_, ?_⟩
                · simp at hm
                  rcases hm with hm | rfl
                  · have := h2.1 m (by simpa using hm); omega
                  · simp
                · simp only [Array.toList_push, List.map_append, List.nodup_append]
                  refine ⟨h2.2, by simp, ?_⟩
                  intro x hx y hy
                  simp at hy; subst hy
                  obtain ⟨m, hm, rfl⟩ := List.mem_map.1 hx
                  have := h2.1 m hm
                  omega
              · refine ⟨by simp [h4.1], fun i e m hi hm => ?_⟩
                simp only [Array.toList_push] at hm
                by_cases hil : i < l.length
                · rw [List.getElem?_append_left hil] at hi
                  rw [List.getElem?_append_left (by rw [← h4.1]; exact hil)] at hm
                  exact h4.2 i e m hi hm
                · rw [List.getElem?_append_right (by omega)] at hi
                  rw [List.getElem?_append_right (by rw [← h4.1]; omega), ← h4.1] at hm
                  cases hz : i - l.length with
                  | zero => rw [hz] at hi hm; simp at hi hm; subst hi; subst hm; exact ⟨hk, hv⟩
                  | succ n => rw [hz] at hi; simp at hi
          · have hmem : e ∈ es := List.mem_of_find?_eq_some e1
            have hany : es.any (fun e => keq k e.1) = true := List.any_eq_true.2 ⟨e, hmem, List.find?_some (p := fun e : AV × AV => keq k e.1) e1⟩
            have hf := e6 w
            have hjl : j < me.size := by have := (List.getElem?_eq_some_iff.1 e3).1; simpa using this
            have hmj : me[j]? = some m := by simpa using e3
            have hmj' : me[j] = m := by simpa [hjl] using hmj
            refine ⟨w.putObj pl.blk (.map (me.modify j fun e => { e with key := ck, val := cv }) clk), ?_, ?_⟩
            · have hst : (Instr.keyThatStays ck ck).run P w = .ok ck w := key_stays hc.1 hk w
              simp [Instr.mapUpdate, run_underlying hu, MapKept.run_getObj_map h1, hck, hf, run_setObj_map _ h1, World.putObj, hjl, hmj', e4, hst]
            · rw [upsertA, if_pos hany]
              have hfst : ∀ e ∈ es, (if keq k e.1 then (k, v) else e).1 = e.1 := by
                intro e he
                split
                · next hq => exact ((keq_iff hc.1 (hc.2 e he)).1 hq)
                · rfl
              refine h.putBlk hS hpl rfl rfl h6 (by intro es' e; cases e) ⟨h0, ?_, ⟨_, _, l.map (fun e => if keq k e.1 then (k, v) else e), World.putObj_heap_same (lt_of_heap h1), ?_, h3.map _, ?_, by simpa using h5'⟩, h6⟩
              · rw [List.map_map, List.map_congr_left (g := Prod.fst) (by intro e he; exact hfst e he)]
                exact hn
              · have hb : (me.modify j fun e => { e with key := ck, val := cv }).toList.map (·.born) = me.toList.map (·.born) := by
                  apply List.ext_getElem?
                  intro i
                  simp only [List.getElem?_map, Array.getElem?_toList, Array.getElem?_modify]
                  split
                  · cases me[i]? <;> rfl
                  · rfl
                refine ⟨fun m' hm' => ?_, by rw [hb]; exact h2.2⟩
                have : m'.born ∈ me.toList.map (·.born) := by rw [← hb]; exact List.mem_map_of_mem hm'
                obtain ⟨m2, k1, k2⟩ := List.mem_map.1 this
                rw [← k2]; exact h2.1 m2 k1
              · refine ⟨by simp [h4.1], fun i e' m' hi hm' => ?_⟩
                simp only [List.getElem?_map, Option.map_eq_some_iff] at hi
                obtain ⟨e0, hi0, rfl⟩ := hi
                simp only [Array.getElem?_toList, Array.getElem?_modify] at hm'
                have hil : i < l.length := (List.getElem?_eq_some_iff.1 hi0).1
                by_cases hij : j = i
                · subst hij
                  rw [e2] at hi0; cases hi0
                  rw [if_pos rfl, hmj] at hm'
                  simp at hm'; subst hm'
                  rw [if_pos ((keq_iff hc.1 (hc.2 e hmem)).2 e5.symm)]
                  exact ⟨hk, hv⟩
                · rw [if_neg hij] at hm'
                  have hne : keq k e0.1 = false := by
                    cases hq : keq k e0.1 with
                    | false => rfl
                    | true =>
                      have h7 := (keq_iff hc.1 (hc.2 e0 (h3.mem_iff.1 (List.mem_of_getElem? hi0)))).1 hq
                      have hnl : (l.map Prod.fst).Nodup := (h3.map Prod.fst).nodup_iff.2 hn
                      exact absurd ((List.getElem?_inj (i := i) (j := j) (by simpa using hil) hnl).1 (by simp only [List.getElem?_map, hi0, e2, Option.map_some]; rw [← h7, e5])) (fun e => hij e.symm)
                  rw [hne]
                  exact h4.2 i e0 m' hi0 (by simpa using hm')
      · cases he
    · cases he
  · cases he
def rangeA (P : Program) (S : List Blk) (t : TypeId) (x : AV) : Option (AV × List Blk) :=
  match P.underlying t, x with
  | some (.map _ _), .mnil => some (.own S.length 0, S ++ [.mit none []])
  | some (.map _ _), .mval es => some (.own S.length 0, S ++ [.mit none es])
  | some (.map _ _), .mown a => match S[a]? with
    | some (.mp true es) => some (.own S.length 0, S ++ [.mit none es])
    | _ => none
  | _, _ => none
theorem rangeA_sound (h : Rel w0 ι ψ S w) {t : TypeId} {x : AV} {c : Value} (hx : VR ι ψ x c) {r : AV} {S' : List Blk} (he : rangeA P S t x = some (r, S')) :
    ∃ ι' w' cv, (Instr.range t c).run P w = .ok cv w' ∧ Ext ι ψ ι' ψ ∧ Rel w0 ι' ψ S' w' ∧ VR ι' ψ r cv := by
  have fin : ∀ (o : Obj) (rest : List (AV × AV)), (Instr.range t c).run P w = .ok (.pointer (some ⟨w.heap.size, 0, none⟩)) (w.alloc o) → (r, S') = (.own S.length 0, S ++ [.mit none rest]) →
      (o = .mapIter none 0 #[] 0 ∧ rest = [] ∨ ∃ (mb : Nat) (me : Array MapEntry) (ck : Nat) (l : List (AV × AV)), o = .mapIter (some mb) ck #[] ck ∧ ψ.m mb = some (me, ck) ∧ l.Perm rest ∧ EntR ι ψ l me.toList) →
      ∃ ι' w' cv, (Instr.range t c).run P w = .ok cv w' ∧ Ext ι ψ ι' ψ ∧ Rel w0 ι' ψ S' w' ∧ VR ι' ψ r cv := by
    intro o rest hr e ho
    simp only [Prod.mk.injEq] at e
    obtain ⟨rfl, rfl⟩ := e
    refine ⟨ι ++ [⟨w.heap.size, 0, undef, 0⟩], _, _, hr, Ext.push ι ψ _, h.newBlk o (.mit none rest) (fun _ => rfl) ⟨h.n0, ?_, fun k => h.psi_new (Nat.le_refl _) k, h.psim_new (Nat.le_refl _)⟩, ?_⟩
    · rcases ho with ⟨rfl, rfl⟩ | ⟨mb, me, ck, l, rfl, k1, k3, k4⟩
      · exact .inl ⟨World.alloc_heap_new w _, rfl, rfl⟩
      · refine .inr ⟨mb, ck, me, #[], l, World.alloc_heap_new w _, k1, k3, ?_, by intro e he; cases he⟩
        have : me.toList.filter (fun e => !(#[] : Array Nat).contains e.born) = me.toList := by
          rw [List.filter_eq_self]; intro e _; simp
        rw [this]
        exact k4.mono (Ext.push ι ψ _)
    · have := VR.own (ι := ι ++ [⟨w.heap.size, 0, undef, 0⟩]) (ψ := ψ) S.length 0 ⟨w.heap.size, 0, undef, 0⟩ (by rw [← h.len]; simp)
      exact this
  unfold rangeA at he
  split at he
  · next kt et hu =>
    cases hx
    exact fin (.mapIter none 0 #[] 0) [] (by simp [Instr.range, run_underlying hu, newObj, Sem.run]) (by simpa using he.symm) (.inl ⟨rfl, rfl⟩)
  · next kt et es hu =>
    cases hx with
    | mval _ l b ck me hb hp hl hn h1 h2 =>
      obtain ⟨hck, hok⟩ := h.psim b me ck hb
      refine fin (.mapIter (some b) ck #[] ck) es (by simp [Instr.range, run_underlying hu, MapKept.run_getObj_map hck, newObj, Sem.run]) (by simpa using he.symm) (.inr ⟨b, me, ck, l, rfl, hb, hp, ?_⟩)
      exact ⟨by simpa using hl, fun i e m hi hm => ⟨h1 i e m hi (by simpa using hm), h2 i e m hi (by simpa using hm)⟩⟩
  · next kt et a hu =>
    split at he
    · next es hS =>
      cases hx with
      | mown _ pl hpl =>
        obtain ⟨h0, hn, ⟨me, ck, l, h1, h2, h3, h4, h5⟩, h6⟩ := h.blk a _ pl hS hpl
        refine fin (.mapIter (some pl.blk) ck #[] ck) es (by simp [Instr.range, run_underlying hu, MapKept.run_getObj_map h1, newObj, Sem.run]) (by simpa using he.symm) (.inr ⟨pl.blk, me, ck, l, rfl, by simpa using h5, h3, h4⟩)
    · cases he
  · cases he
def okBytes (els : List AV) : Bool := els.all fun x => match x with
  | .int .u8 n => decide (0 ≤ n) && decide (n < 256)
  | _ => false
def unsafeStrA (P : Program) (S : List Blk) (pt : TypeId) (p n : AV) : Option (AV × List Blk) :=
  match p, n with
  | .oel a g 0 0, .int .i64 m => match S[a]? with
    | some (.arr e 1 _ g' els) => match bytesOf els with
      | some s => match P.underlying pt with
        | some (.pointer e') => if g = g' ∧ m = els.length ∧ 1 ≤ els.length ∧ e' = e ∧ P.cellsOf e = 1 ∧ okBytes els = true then some (.str s, S.set a .dead) else none
        | _ => none
      | none => none
    | _ => none
  | .nilp, .int .i64 m => if m = 0 then some (.str [], S) else none
  | _, _ => none
theorem unsafeStrA_sound (h : Rel w0 ι ψ S w) {pt it ty : TypeId} {p n r : AV} {cp cn : Value} {S' : List Blk} (hp : VR ι ψ p cp) (hn : VR ι ψ n cn) (he : unsafeStrA P S pt p n = some (r, S')) :
    ∃ w' cv, (Builtin.unsafeString_ #[pt, it] ty #[cp, cn]).run P w = .ok cv w' ∧ Rel w0 ι ψ S' w' ∧ VR ι ψ r cv := by
  unfold unsafeStrA at he
  split at he
  · next a g m =>
    obtain rfl := hn.int_inv
    split at he
    · next e fz g' els hS =>
      split at he
      · next s hs =>
       split at he
       · next e' hpt =>
        split at he
        · next hc =>
          obtain ⟨rfl, rfl, hpos, rfl, hce, hok8⟩ := hc
          simp only [Option.some.injEq, Prod.mk.injEq] at he
          obtain ⟨rfl, rfl⟩ := he
          obtain ⟨ns, rfl, rfl⟩ := bytesOf_spec _ _ hs
          cases hp with
          | oel _ _ _ _ ad pl hpl hgl hs' =>
            obtain ⟨⟨hgen, hpsz⟩, hsz, _, hfz, ⟨xs, hown, hxs⟩, hps⟩ := h.blk a _ pl hS hpl
            obtain ⟨b, hb, rfl⟩ := hs' hgen.symm
            rcases hown.2 with ⟨hnn, hn0⟩ | ⟨b', cap, cur, hv, hbb, hgg, hle, hcm, hcs, htk⟩
            · omega
            · rw [hv] at hb
              simp only [Value.ownBlock, Option.some.injEq] at hb
              subst hb
              have hlen : (ns.map (AV.int .u8)).length = ns.length := by simp
              rw [hlen] at hpos hle
              have hcell : ∀ (j : Nat) (x : Int), ns[j]? = some x → w.cell? ((⟨b', 0, none⟩ : Addr).add j) = some (.int .u8 x) := by
                intro j x hj
                have hf : (flat (ns.map (AV.int .u8)))[j]? = some (.int .u8 x) := by
                  have := flat_get (els := ns.map (AV.int .u8)) (sz := 1) hsz (i := j) (j := 0) (e := .int .u8 x) (x := .int .u8 x) (by simp [hj]) rfl
                  simpa using this
                obtain ⟨_, v, hv', hr, _⟩ := hxs j _ hf
                rw [hr.int_inv] at hv'
                exact hown.cells (g := b') (by rw [hv]; rfl) j _ hv'
              have h8 : ∀ n ∈ ns, ((UInt8.ofNat n.toNat).toNat : Int) = n := by
                intro n hn'
                have h9 := List.all_eq_true.1 hok8 _ (List.mem_map.2 ⟨n, hn', rfl⟩)
                simp only [Bool.and_eq_true, decide_eq_true_eq] at h9
                have : (UInt8.ofNat n.toNat).toNat = n.toNat := by
                  rw [UInt8.toNat_ofNat']; omega
                rw [this]; omega
              have hsh : w.shape? b' = some (e', cur.size) := by simp [World.shape?, hgg]
              have hus := Lib.run_unsafeString_row (P := P) (w := w) pt it ty e' hpt hce b' cur.size hsh (ns.map fun n => UInt8.ofNat n.toNat) (fun e => by rw [List.map_eq_nil_iff] at e; rw [e] at hpos; simp at hpos) (by rw [hcs]; simp; omega) (by simp only [maxLen] at hcm; simp; omega) (fun j x hj => by
                rw [List.getElem?_map, Option.map_eq_some_iff] at hj
                obtain ⟨n, hn', rfl⟩ := hj
                rw [h8 n (List.mem_of_getElem? hn')]
                exact hcell j n hn')
              rw [List.length_map] at hus
              refine ⟨w.freeze ⟨b', 0, none⟩ ns.length, .string ⟨(ns.map fun n => UInt8.ofNat n.toNat).toArray⟩, ?_, ?_, .str' _⟩
              · rw [show (⟨b', 0 * pl.sz + 0, none⟩ : Addr) = ⟨b', 0, none⟩ by simp, hlen]
                exact hus
              · have hset : ι.set a pl = ι := set_self hpl
                have hcell' : ∀ ad : Addr, (w.freeze ⟨b', 0, none⟩ ns.length).cell? ad = w.cell? ad := fun ad => cell_freeze w _ _ ad
                have hoth : ∀ k, k ≠ b' → (w.freeze ⟨b', 0, none⟩ ns.length).heap[k]? = w.heap[k]? := by
                  intro k hk
                  unfold World.freeze
                  split
                  · rfl
                  · simp [Array.getElem?_modify, Ne.symm hk]
                have key := h.update (w' := w.freeze ⟨b', 0, none⟩ ns.length) (ψ' := ψ) (B' := .dead) (pl' := pl) hS hpl ?_ ?_ ?_ trivial (by intro k hk; simp [Blk.at] at hk) ?_ rfl
                · rw [hset] at key; exact key
                · refine ⟨?_, ?_, ?_, ?_, fun k hk => hoth k (by omega)⟩ <;> (unfold World.freeze; split <;> simp)
                · intro k hk _
                  exact hoth k (fun e => hk (by simp [Blk.at, hv, Value.ownBlock, e]))
                · rw [hset]; exact Ext.refl _ _
                · intro b o v e
                  by_cases hbk : b = b'
                  · subst hbk
                    exact .inr ⟨.inl (by simp [Blk.at, hv, Value.ownBlock]), by rw [hcell']; exact h.psi _ _ _ e⟩
                  · exact .inl ⟨e, fun hk => hbk (by simp [Blk.at, hv, Value.ownBlock] at hk; exact hk.symm)⟩
        · cases he
       · cases he
      · cases he
    · cases he
  · next m =>
    obtain rfl := hn.int_inv
    split at he
    · next hm =>
      subst hm
      simp only [Option.some.injEq, Prod.mk.injEq] at he
      obtain ⟨rfl, rfl⟩ := he
      cases hp with
      | nilp => exact ⟨w, _, Lib.run_unsafeString_none (P := P) (w := w) pt it ty none, h, .str _ _ rfl⟩
    · cases he
  · cases he
end Go.Fen
namespace Go.Fen
open Go.RowKit
variable {P : Program} {w0 w w' : World} {ι : List Pl} {ψ : Psi} {S : List Blk}
def makeSliceA (P : Program) (S : List Blk) (t : TypeId) (l c : AV) : Option (AV × List Blk) :=
  match P.underlying t, l, c with
  | some (.slice e), .int .i64 n, .int .i64 m => match einfo P e, zeroV P e with
    | some (sz, bytes, zs), some z => if okEls sz [z] = true ∧ 0 < sz ∧ 0 < bytes ∧ zs = sz ∧ 0 ≤ n ∧ n ≤ m ∧ m * (bytes : Nat) ≤ 140737488355328 then
        some (.sown S.length 0 n.toNat, S ++ [.arr e sz 0 0 (List.replicate n.toNat z)]) else none
    | _, _ => none
  | _, _, _ => none
theorem flat_rep {z : AV} {sz : Nat} (hz : z.cells.length = sz) (hp : 0 < sz) : ∀ (k j : Nat), j < k * sz → (flat (List.replicate k z))[j]? = z.cells[j % sz]?
  | 0, j, h => by simp at h
  | k + 1, j, h => by
    rw [List.replicate_succ, flat_cons]
    by_cases hj : j < sz
    · rw [List.getElem?_append_left (by omega), Nat.mod_eq_of_lt hj]
    · have e : j % sz = (j - sz) % sz := Nat.mod_eq_sub_mod (by omega)
      rw [Nat.succ_mul] at h
      rw [List.getElem?_append_right (by omega), hz, flat_rep hz hp k (j - sz) (by omega), e]
theorem makeSliceA_sound (h : Rel w0 ι ψ S w) {t : TypeId} {l c : AV} {lv cv : Value} {r : AV} {S' : List Blk} (hl : VR ι ψ l lv) (hc : VR ι ψ c cv) (he : makeSliceA P S t l c = some (r, S')) :
    ∃ ι' ψ' w' v, (Instr.makeSlice t lv cv).run P w = .ok v w' ∧ Ext ι ψ ι' ψ' ∧ Rel w0 ι' ψ' S' w' ∧ VR ι' ψ' r v := by
  unfold makeSliceA at he
  split at he
  · next e n m hu =>
    split at he
    · next sz bytes zs z hi hz =>
      split at he
      · next hcnd =>
        obtain ⟨h1, h2, h3, h4, h5, h6, h7⟩ := hcnd
        simp at he
        obtain ⟨rfl, rfl⟩ := he
        obtain ⟨i, zv, i1, i2, i3, i4, i5⟩ := einfo_spec hi
        obtain ⟨zv', hzr, hzv⟩ := zeroV_sound (P := P) (w := w) (ι := ι) (ψ := ψ) hz
        have hnj : z ≠ .junk := by
          rintro rfl
          simp [okEls, AV.cells, AV.leaf] at h1
        have hzl : z.cells.length = sz := okEls_len h1 z (by simp)
        obtain ⟨c1, c2⟩ := hzv.cells hnj
        cases hl with
        | int _ _ =>
        cases hc with
        | int _ _ =>
        obtain ⟨a, rfl⟩ : ∃ a : Nat, n = a := ⟨n.toNat, by omega⟩
        obtain ⟨b, rfl⟩ : ∃ b : Nat, m = b := ⟨m.toNat, by omega⟩
        have hmul : ((b * bytes : Nat) : Int) = (b : Int) * (bytes : Int) := Int.natCast_mul ..
        have h7' : b * bytes ≤ 140737488355328 := by rw [← hmul] at h7; omega
        have hb48 : b ≤ 140737488355328 := Nat.le_trans (Nat.le_mul_of_pos_right b h3) h7'
        have w1 : IntKind.i64.wrap (a : Int) = a := IntWalk.i64_in _ (by omega)
        have w2 : IntKind.i64.wrap (b : Int) = b := IntWalk.i64_in _ (by omega)
        have nz : ¬ (((i.bytes : Int) * (b : Int)) > 2 ^ 48) := by rw [i4, Int.mul_comm, ← hmul]; omega
        have hroom : ¬ (b * i.bytes > roomBytes) := by rw [i4]; simp only [roomBytes]; omega
        let cur : Array Value := (Array.range (b * sz)).map ((if b * sz = 0 then #[] else zv'.cells)[· % (if b * sz = 0 then #[] else zv'.cells).size]!)
        have hrun : (Instr.makeSlice t (.int .i64 (a : Int)) (.int .i64 (b : Int))).run P w = .ok (.slice (some ⟨w.heap.size, 0, none⟩) a b) (w.alloc (.cells cur e)) := by
          have hsz : sizeT P e = some sz := by simp [sizeT, i1, i3]
          have n1 : ¬ ((a : Int) < 0) := by omega
          have n2 : ¬ ((b : Int) < (a : Int)) := by omega
          have n3 : ¬ ((b : Int) < 0) := by omega
          have n4 : ¬ (281474976710656 < (i.bytes : Int) * (b : Int)) := by omega
          have n5 : (((b : Int) < 0 ∨ 281474976710656 < (i.bytes : Int) * (b : Int)) ∨ (a : Int) < 0) ∨ (b : Int) < (a : Int) ↔ False := by
            constructor
            · rintro (((h | h) | h) | h) <;> omega
            · exact False.elim
          by_cases h0 : b * sz = 0
          · simp [Instr.makeSlice, run_underlying hu, asInt, asIntOf, typeInfo, i1, w1, w2, n5, askRoom, hroom, run_sizeOf hsz, newRow, run_newObj, h0, cur]
            intro hh; exact absurd hh (by rintro (((h | h) | h) | h) <;> omega)
          · simp [Instr.makeSlice, run_underlying hu, asInt, asIntOf, typeInfo, i1, w1, w2, n5, askRoom, hroom, run_sizeOf hsz, hzr, newRow, run_newObj, h0, cur]
            intro hh; exact absurd hh (by rintro (((h | h) | h) | h) <;> omega)
        have hcs : cur.size = b * sz := by simp [cur]
        have key := h.newArr e sz a b (List.replicate a z) cur (by simp) (by simp [okEls] at h1 ⊢; exact .inr h1) h2 (by omega) (maxLen_of_bytes h3 h7') hcs ?_
        · refine ⟨_, ψ, _, _, hrun, Ext.push ι ψ _, by simpa using key, ?_⟩
          refine .sown _ _ _ _ _ ⟨0, 0, .slice (some ⟨w.heap.size, 0, none⟩) a b, sz⟩ ?_ (Nat.le_refl _) (fun _ => rfl)
          rw [← h.len]; simp
        · intro j x ex
          have hj : j < a * sz := by
            have := (List.getElem?_eq_some_iff.1 ex).1
            rw [flat_length (sz := sz) (by intro y hy; rw [(List.mem_replicate.1 hy).2]; exact hzl)] at this; simpa using this
          rw [flat_rep hzl h2 a j hj] at ex
          have hjb : j < b * sz := Nat.lt_of_lt_of_le hj (Nat.mul_le_mul_right _ (by omega))
          obtain ⟨v, v1, v2⟩ := c2 _ _ ex
          refine ⟨v, ?_, v2⟩
          have hne : ¬ b * sz = 0 := by omega
          have hsz' : zv'.cells.size = sz := by rw [c1]; exact hzl
          simp only [cur, if_neg hne, hsz']
          rw [Array.getElem?_map, Array.getElem?_range, if_pos hjb]
          simp only [Option.map_some]
          rw [Array.getElem!_eq_getD, Array.getD_eq_getD_getElem?, v1]
          rfl
      · cases he
    · cases he
  · cases he
end Go.Fen
namespace Go.Fen
open Go.RowKit
variable {P : Program} {w0 w w' : World} {ι : List Pl} {ψ : Psi} {S : List Blk}
theorem okEls_junk {sz : Nat} {els : List AV} (h : okEls sz els = true) {e : AV} (he : e ∈ els) : e.isJunk = false := by
  have := List.all_eq_true.1 h e he
  simp at this
  cases e <;> first | rfl | (simp [AV.cells, AV.leaf] at this)
theorem fillA_seq {sz : Nat} : ∀ (els : List AV) (parts : List (Nat × AV)) (k : Nat) (cells : List AV), parts.map Prod.snd = els → parts.map Prod.fst = List.range' k els.length → okEls sz els = true → (k + els.length) * sz ≤ cells.length →
    ∃ r, fillA (fun i => some (i * sz, sz)) cells parts = some r ∧ r.length = cells.length ∧ ∀ j, r[j]? = if k * sz ≤ j ∧ j < (k + els.length) * sz then (flat els)[j - k * sz]? else cells[j]? := by
  intro els
  induction els with
  | nil =>
    intro parts k cells h1 _ _ _
    have : parts = [] := by simpa using h1
    subst this
    refine ⟨cells, rfl, rfl, fun j => ?_⟩
    rw [if_neg]
    simp only [List.length_nil, Nat.add_zero]; omega
  | cons e els ih =>
    intro parts k cells h1 h2 h3 h4
    cases parts with
    | nil => simp at h1
    | cons p parts =>
      obtain ⟨i, v⟩ := p
      simp only [List.map_cons, List.cons.injEq] at h1
      obtain ⟨rfl, h1⟩ := h1
      simp only [List.map_cons, List.length_cons, List.range'_succ, List.cons.injEq] at h2
      obtain ⟨rfl, h2⟩ := h2
      have hv : v.cells.length = sz := okEls_len h3 v (by simp)
      have hj := okEls_junk h3 (e := v) (by simp)
      have h3' : okEls sz els = true := by unfold okEls at h3 ⊢; simp only [List.all_cons, Bool.and_eq_true] at h3; exact h3.2
      simp only [List.length_cons] at h4
      have e1 : (i + (els.length + 1)) * sz = i * sz + sz + els.length * sz := by rw [Nat.add_mul, Nat.add_mul, Nat.one_mul]; omega
      have e2 : (i + 1 + els.length) * sz = i * sz + sz + els.length * sz := by rw [Nat.add_mul, Nat.add_mul, Nat.one_mul]
      have e3 : (i + 1) * sz = i * sz + sz := Nat.succ_mul _ _
      have hfl := flat_length (okEls_len h3')
      obtain ⟨r, r1, r2, r3⟩ := ih parts (i + 1) (splice cells (i * sz) v.cells) h1 h2 h3' (by simp [splice]; omega)
      refine ⟨r, ?_, by rw [r2]; simp [splice]; omega, fun j => ?_⟩
      · simp only [fillA]
        rw [if_pos ⟨hv, by omega, hj⟩]
        exact r1
      · rw [r3 j, flat_cons]
        simp only [List.length_cons, e2, e1, e3]
        by_cases hin : i * sz + sz ≤ j ∧ j < i * sz + sz + els.length * sz
        · rw [if_pos hin, if_pos (by omega), List.getElem?_append_right (by omega), hv]
          congr 1; omega
        · rw [if_neg hin, splice, getElem?_splice cells v.cells (i * sz) j (by omega), hv]
          by_cases hin2 : i * sz ≤ j ∧ j < i * sz + sz
          · rw [if_pos hin2, if_pos (by omega), List.getElem?_append_left (by omega)]
          · rw [if_neg hin2, if_neg (by omega)]
def buildSliceA (P : Program) (S : List Blk) (t : TypeId) (len : Nat) (parts : List (Nat × AV)) : Option (AV × List Blk) :=
  match P.underlying t with
  | some (.slice e) => match sizeT P e, zeroA P e with
    | some sz, some _ => if parts.map Prod.fst = List.range len ∧ okEls sz (parts.map Prod.snd) = true ∧ 0 < sz ∧ len * sz ≤ 16777216 then
        some (.sown S.length 0 len, S ++ [.arr e sz 0 0 (parts.map Prod.snd)]) else none
    | _, _ => none
  | _ => none
theorem buildSliceA_sound (h : Rel w0 ι ψ S w) {t : TypeId} {len : Nat} {ps : List (Nat × AV)} {vs : Array (Nat × Value)} {r : AV} {S' : List Blk} (hl : ps.length = vs.size)
    (hv : ∀ (j : Nat) (p : Nat × AV) (q : Nat × Value), ps[j]? = some p → vs[j]? = some q → p.1 = q.1 ∧ VR ι ψ p.2 q.2) (he : buildSliceA P S t len ps = some (r, S')) :
    ∃ ι' ψ' w' cv, (Instr.buildSlice t len vs).run P w = .ok cv w' ∧ Ext ι ψ ι' ψ' ∧ Rel w0 ι' ψ' S' w' ∧ VR ι' ψ' r cv := by
  unfold buildSliceA at he
  split at he
  · next e hu =>
    split at he
    · next sz z hsz hz =>
      split at he
      · next hc =>
        obtain ⟨h1, h2, h3, h4⟩ := hc
        simp at he
        obtain ⟨rfl, rfl⟩ := he
        obtain ⟨zv, hzr, _⟩ := zeroA_sound (P := P) (w := w) (ι := ι) (ψ := ψ) hz
        have hlen : (ps.map Prod.snd).length = len := by
          have := congrArg List.length h1
          simp at this ⊢; exact this
        obtain ⟨rA, f1, f2, f3⟩ := fillA_seq (sz := sz) (ps.map Prod.snd) ps 0 (List.replicate (len * sz) .junk) rfl (by rw [h1, hlen, List.range_eq_range']) h2 (by simp [hlen])
        have hinit : ∀ zc : Array Value, CR ι ψ (List.replicate (len * sz) .junk) ((Array.range (len * sz)).map (zc[· % zc.size]!)) := by
          intro zc
          refine ⟨by simp, fun j x ex => ?_⟩
          have hj := (List.getElem?_eq_some_iff.1 ex)
          obtain ⟨hj1, hj2⟩ := hj
          simp at hj2 hj1
          subst hj2
          exact ⟨zc[j % zc.size]!, by simp [hj1], .junk _⟩
        obtain ⟨rc, g1, g2⟩ := fill_sound ps vs.toList _ _ rA (hinit (if len * sz = 0 then #[] else zv.cells)) (by simpa using hl) (fun j p q hp hq => hv j p q hp (by simpa using hq)) f1
        have hrun : (Instr.buildSlice t len vs).run P w = .ok (.slice (some ⟨w.heap.size, 0, none⟩) len len) (w.alloc (.cells rc e)) := by
          have hnb : ¬ (len * sz > 2 ^ 24) := by omega
          by_cases h0 : len * sz = 0
          · rw [if_pos h0] at g1
            simp only [Instr.buildSlice, Sem.run_bind, run_underlying hu, Result.andThen_ok, run_sizeOf hsz, if_neg hnb, if_pos h0, Sem.run_pure, g1, newRow, run_newObj]
            rfl
          · rw [if_neg h0] at g1
            simp only [Instr.buildSlice, Sem.run_bind, run_underlying hu, Result.andThen_ok, run_sizeOf hsz, if_neg hnb, if_neg h0, hzr, Sem.run_pure, g1, newRow, run_newObj]
            rfl
        have hrs : rc.size = len * sz := by rw [← g2.1, f2]; simp
        have key := h.newArr e sz len len (ps.map Prod.snd) rc hlen.symm h2 h3 (Nat.le_refl _) ?_ hrs ?_
        · refine ⟨_, ψ, _, _, hrun, Ext.push ι ψ _, key, ?_⟩
          refine .sown _ _ _ _ _ ⟨0, 0, .slice (some ⟨w.heap.size, 0, none⟩) len len, sz⟩ ?_ (Nat.le_refl _) (fun _ => rfl)
          rw [← h.len]; simp
        · have := Nat.le_trans (Nat.le_mul_of_pos_right len h3) h4
          simp only [maxLen]; omega
        · intro j x ex
          have hj : j < len * sz := by
            have := (List.getElem?_eq_some_iff.1 ex).1
            rw [flat_length (okEls_len h2), hlen] at this; exact this
          refine g2.2 j x ?_
          rw [f3 j, if_pos ⟨by omega, by rw [hlen]; simpa using hj⟩]
          simpa using ex
      · cases he
    · cases he
  · cases he
def isBld (P : Program) (t : TypeId) : Bool :=
  match P.underlying t with
  | some (.struct fs) => fs.toList.map (·.name) == ["addr", "buf"]
  | _ => false
def stepF (P : Program) (S : List Blk) (ρ : Operand → AV) (op : Op) : Option (AV × List Blk) :=
  match op with
  | .alloc t => match zeroA P t with
    | some z => if allLeaf z = true then some (.own S.length 0, S ++ [.cells z (if isBld P t then some t else none)]) else none
    | none => none
  | .box _ x => if (ρ x).isJunk = false ∧ allLeaf (ρ x).cells = true then some (.own S.length 0, S ++ [.cells (ρ x).cells]) else none
  | .buildSlice t len parts => buildSliceA P S t len (parts.toList.map fun p => (p.1, ρ p.2))
  | .store t a v => match storeA P S t (ρ a) (ρ v) with
    | some S' => some (.tup [], S')
    | none => none
  | .makeMap t r => makeMapA P S t (r.map ρ)
  | .makeSlice t l c => makeSliceA P S t (ρ l) (ρ c)
  | .mapUpdate t m k v => match mapUpdateA P S t (ρ m) (ρ k) (ρ v) with
    | some S' => some (.tup [], S')
    | none => none
  | .insert t m k v => match mapUpdateA P S t (ρ m) (ρ k) (ρ v) with
    | some S' => some (.tup [], S')
    | none => none
  | .range t x => rangeA P S t (ρ x)
  | .call c => match c.callee, c.args.toList, c.argTypes.toList with
    | .builtin .append, [s, x], [t, tx] => appendA P S t tx (ρ s) (ρ x)
    | .builtin .unsafeString, [p, n], [pt, _] => unsafeStrA P S pt (ρ p) (ρ n)
    | _, _, _ => (pureF P S ρ (.call c)).map (fun v => (v, S))
  | op => (pureF P S ρ op).map (fun v => (v, S))
theorem stepF_sound (h : Rel w0 ι ψ S w) {ρ : Operand → AV} {σ : Operand → Value} (hρ : ∀ x, VR ι ψ (ρ x) (σ x)) {o : Oper} {r : AV} {S' : List Blk} (he : stepF P S ρ o.op = some (r, S')) :
    ∃ ι' ψ' w' nx cv, (execOp σ o).run P w = .ok nx w' ∧ (nx = .value cv ∨ (nx = .skip ∧ cv = undef)) ∧ Ext ι ψ ι' ψ' ∧ Rel w0 ι' ψ' S' w' ∧ VR ι' ψ' r cv := by
  have pure : ∀ (o : Oper), ((pureF P S ρ o.op).map fun v => (v, S)) = some (r, S') →
      ∃ ι' ψ' w' nx cv, (execOp σ o).run P w = .ok nx w' ∧ (nx = .value cv ∨ (nx = .skip ∧ cv = undef)) ∧ Ext ι ψ ι' ψ' ∧ Rel w0 ι' ψ' S' w' ∧ VR ι' ψ' r cv := by
    intro o he
    cases hp : pureF P S ρ o.op with
    | none => simp [hp] at he
    | some v =>
      simp [hp] at he
      obtain ⟨rfl, rfl⟩ := he
      obtain ⟨cv, h1, h2⟩ := pureF_sound (P := P) h hρ hp
      exact ⟨ι, ψ, w, _, cv, h1, .inl rfl, Ext.refl _ _, h, h2⟩
  obtain ⟨dst, op, ty, pos, after, guard⟩ := o
  simp only at he
  unfold stepF at he
  split at he
  · next t =>
    split at he
    · next z hz =>
      split at he
      · next hl =>
        simp at he
        obtain ⟨rfl, rfl⟩ := he
        obtain ⟨zv, hzr, hzc⟩ := zeroA_sound (P := P) (w := w) (ι := ι) (ψ := ψ) hz
        obtain ⟨k1, k2⟩ := CR.newCells h hzc hl t (if isBld P t then some t else none) (by intro u e; split at e <;> cases e; rfl)
        exact ⟨_, ψ, _, _, _, by simp [execOp, Instr.alloc, hzr, newVar, newRow], .inl rfl, Ext.push ι ψ _, k1, k2⟩
      · cases he
    · cases he
  · next t x =>
    split at he
    · next hc =>
      simp at he
      obtain ⟨rfl, rfl⟩ := he
      obtain ⟨hs, hvv⟩ := (hρ x).cells (by intro e; rw [e] at hc; simp [AV.isJunk] at hc)
      obtain ⟨k1, k2⟩ := CR.newCells h ⟨hs.symm, hvv⟩ hc.2 t
      exact ⟨_, ψ, _, _, _, by simp [execOp, Instr.box, newVar, newRow], .inl rfl, Ext.push ι ψ _, k1, k2⟩
    · cases he
  · next t len parts =>
    obtain ⟨ι', ψ', w', cv, h1, h2, h3, h4⟩ := buildSliceA_sound (P := P) h (vs := parts.map fun p => (p.1, σ p.2)) (by simp) (fun j p q hp hq => by
      simp only [List.getElem?_map, Array.getElem?_toList, Array.getElem?_map, Option.map_eq_some_iff] at hp hq
      obtain ⟨y, hy, rfl⟩ := hp
      obtain ⟨z, hz, rfl⟩ := hq
      rw [hy] at hz; cases hz
      exact ⟨rfl, hρ _⟩) he
    exact ⟨ι', ψ', w', _, cv, by simp [execOp, h1], .inl rfl, h2, h3, h4⟩
  · next t a v =>
    split at he
    · next S2 hst =>
      simp at he
      obtain ⟨rfl, rfl⟩ := he
      obtain ⟨w', h1, h2⟩ := storeA_sound (P := P) h (hρ a) (hρ v) hst
      exact ⟨ι, ψ, w', _, undef, by simp [execOp, h1], .inr ⟨rfl, rfl⟩, Ext.refl _ _, h2, .tup _ _ rfl (by simp)⟩
    · cases he
  · next t rr =>
    obtain ⟨ι', w', cv, h1, h2, h3, h4⟩ := makeMapA_sound (P := P) h (OptR_map (σ := σ) hρ rr) he
    exact ⟨ι', ψ, w', _, cv, by simp [execOp, h1], .inl rfl, h2, h3, h4⟩
  · next t l c =>
    obtain ⟨ι', ψ', w', cv, h1, h2, h3, h4⟩ := makeSliceA_sound (P := P) h (hρ l) (hρ c) he
    exact ⟨ι', ψ', w', _, cv, by simp [execOp, h1], .inl rfl, h2, h3, h4⟩
  · next t m k v =>
    split at he
    · next S2 hst =>
      simp at he
      obtain ⟨rfl, rfl⟩ := he
      obtain ⟨w', h1, h2⟩ := mapUpdateA_sound (P := P) h (hρ m) (hρ k) (hρ v) hst
      exact ⟨ι, ψ, w', _, undef, by simp [execOp, h1], .inr ⟨rfl, rfl⟩, Ext.refl _ _, h2, .tup _ _ rfl (by simp)⟩
    · cases he
  · next t m k v =>
    split at he
    · next S2 hst =>
      simp at he
      obtain ⟨rfl, rfl⟩ := he
      obtain ⟨w', h1, h2⟩ := mapUpdateA_sound (P := P) h (hρ m) (hρ k) (hρ v) hst
      exact ⟨ι, ψ, w', _, undef, by simp [execOp, h1], .inr ⟨rfl, rfl⟩, Ext.refl _ _, h2, .tup _ _ rfl (by simp)⟩
    · cases he
  · next t x =>
    obtain ⟨ι', w', cv, h1, h2, h3, h4⟩ := rangeA_sound (P := P) h (hρ x) he
    exact ⟨ι', ψ, w', _, cv, by simp [execOp, h1], .inl rfl, h2, h3, h4⟩
  · next c =>
    obtain ⟨callee, args, ts⟩ := c
    simp only at he
    split at he
    · next s x t tx h1 h2 =>
      obtain rfl : args = #[s, x] := by rw [← Array.toArray_toList (xs := args), h1]
      obtain rfl : ts = #[t, tx] := by rw [← Array.toArray_toList (xs := ts), h2]
      obtain ⟨ι', ψ', w', cv, k1, k2, k3, k4⟩ := appendA_sound (P := P) (ty := ty) h (hρ s) (hρ x) he
      exact ⟨ι', ψ', w', _, cv, by simp [execOp, resolve, invoke, builtin, k1], .inl rfl, k2, k3, k4⟩
    · next p n pt it h1 h2 =>
      obtain rfl : args = #[p, n] := by rw [← Array.toArray_toList (xs := args), h1]
      obtain rfl : ts = #[pt, it] := by rw [← Array.toArray_toList (xs := ts), h2]
      obtain ⟨w', cv, k1, k2, k3⟩ := unsafeStrA_sound (P := P) (it := it) (ty := ty) h (hρ p) (hρ n) he
      exact ⟨ι, ψ, w', _, cv, by simp [execOp, resolve, invoke, builtin, k1], .inl rfl, Ext.refl _ _, k2, k3⟩
    · exact pure _ he
  · exact pure _ he
end Go.Fen
namespace Go.Fen
open Go.RowKit
variable {P : Program} {w0 w w' : World} {ι : List Pl} {ψ : Psi} {S : List Blk}
mutual
def AV.noref : AV → Bool
  | .own .. | .oel .. | .sown .. | .mown .. | .yld _ => false
  | .pro cs => norefL cs
  | .sval _ els => norefL els
  | .mval es => norefP es
  | .fn _ a c => norefL a && norefL c
  | .ifc _ v => v.noref
  | .agg cs => norefL cs
  | .tup cs => norefL cs
  | .dfr cs => norefL cs
  | _ => true
def norefL : List AV → Bool
  | [] => true
  | x :: r => x.noref && norefL r
def norefP : List (AV × AV) → Bool
  | [] => true
  | (a, b) :: r => a.noref && b.noref && norefP r
end
mutual
def AV.lt (n : Nat) : AV → Bool
  | .own a _ => decide (a < n)
  | .oel a .. => decide (a < n)
  | .sown a .. => decide (a < n)
  | .mown a => decide (a < n)
  | .yld a => decide (a < n)
  | .pro cs => ltL n cs
  | .sval _ els => ltL n els
  | .mval es => ltP n es
  | .fn _ a c => ltL n a && ltL n c
  | .ifc _ v => v.lt n
  | .agg cs => ltL n cs
  | .tup cs => ltL n cs
  | .dfr cs => ltL n cs
  | _ => true
def ltL (n : Nat) : List AV → Bool
  | [] => true
  | x :: r => x.lt n && ltL n r
def ltP (n : Nat) : List (AV × AV) → Bool
  | [] => true
  | (a, b) :: r => a.lt n && b.lt n && ltP n r
end
theorem norefL_iff {l : List AV} : norefL l = true ↔ ∀ x ∈ l, x.noref = true := by
  induction l with
  | nil => simp [norefL]
  | cons x l ih => simp [norefL, ih]
theorem norefP_iff {l : List (AV × AV)} : norefP l = true ↔ ∀ x ∈ l, x.1.noref = true ∧ x.2.noref = true := by
  induction l with
  | nil => simp [norefP]
  | cons x l ih => obtain ⟨a, b⟩ := x; simp [norefP, ih]
theorem ltL_iff {n : Nat} {l : List AV} : ltL n l = true ↔ ∀ x ∈ l, x.lt n = true := by
  induction l with
  | nil => simp [ltL]
  | cons x l ih => simp [ltL, ih]
theorem ltP_iff {n : Nat} {l : List (AV × AV)} : ltP n l = true ↔ ∀ x ∈ l, x.1.lt n = true ∧ x.2.lt n = true := by
  induction l with
  | nil => simp [ltP]
  | cons x l ih => obtain ⟨a, b⟩ := x; simp [ltP, ih]
theorem norefL_map {α : Type} {f : α → AV} (h : ∀ x, (f x).noref = true) (l : List α) : norefL (l.map f) = true := by
  rw [norefL_iff]; intro x hx; obtain ⟨y, _, rfl⟩ := List.mem_map.1 hx; exact h y
theorem lt_of_cells {x y : AV} {n j : Nat} (h : x.lt n = true) (hx : x.cells[j]? = some y) : y.lt n = true := by
  have hm := List.mem_of_getElem? hx
  cases x <;> first
    | (simp only [AV.cells, List.mem_singleton] at hm; subst hm; exact h)
    | (simp only [AV.cells] at hm; simp only [AV.lt] at h; exact ltL_iff.1 h y hm)
theorem VR.lt_len {x : AV} {v : Value} (h : VR ι ψ x v) : x.lt ι.length = true := by
  have pos : ∀ {a : Nat} {pl : Pl}, ι[a]? = some pl → decide (a < ι.length) = true := fun h => by simpa using (List.getElem?_eq_some_iff.1 h).1
  induction h with
  | own a off pl h => exact pos h
  | oel a g i off ad pl h hg hs => exact pos h
  | sown a g n ad cap pl h hg hs => exact pos h
  | mown a pl h => exact pos h
  | yld a pl h => exact pos h
  | pro cs b o cv h1 h2 ih => exact ltL_iff.2 fun x hx => by obtain ⟨j, hj⟩ := List.getElem?_of_mem hx; exact ih j x hj
  | sval sz full els b o cap cv hsz hcap hf h1 h2 ih =>
    refine ltL_iff.2 fun x hx => ?_
    obtain ⟨i, hi⟩ := List.getElem?_of_mem hx
    cases x with
    | agg cs => exact ltL_iff.2 fun y hy => by obtain ⟨j, hj⟩ := List.getElem?_of_mem hy; exact ih i _ j y hi hj
    | _ => exact ih i _ 0 _ hi rfl
  | mval es l b ck me hb hp hl hn h1 h2 ih1 ih2 =>
    refine ltP_iff.2 fun x hx => ?_
    obtain ⟨i, hi⟩ := List.getElem?_of_mem (hp.mem_iff.2 hx)
    have hlt : i < me.size := by rw [← hl]; exact (List.getElem?_eq_some_iff.1 hi).1
    exact ⟨ih1 i x me[i] hi (by simp [hlt]), ih2 i x me[i] hi (by simp [hlt])⟩
  | fn f first cap vf vc hl1 hl2 h1 h2 ih1 ih2 =>
    simp only [AV.lt, Bool.and_eq_true]
    refine ⟨ltL_iff.2 fun x hx => ?_, ltL_iff.2 fun x hx => ?_⟩
    · obtain ⟨j, hj⟩ := List.getElem?_of_mem hx
      have hlt : j < vf.size := by rw [← hl1]; exact (List.getElem?_eq_some_iff.1 hj).1
      exact ih1 j x vf[j] hj (by simp [hlt])
    · obtain ⟨j, hj⟩ := List.getElem?_of_mem hx
      have hlt : j < vc.size := by rw [← hl2]; exact (List.getElem?_eq_some_iff.1 hj).1
      exact ih2 j x vc[j] hj (by simp [hlt])
  | ifc t x v h ih => exact ih
  | agg cs vs hl h ih =>
    refine ltL_iff.2 fun x hx => ?_
    obtain ⟨j, hj⟩ := List.getElem?_of_mem hx
    have hlt : j < vs.size := by rw [← hl]; exact (List.getElem?_eq_some_iff.1 hj).1
    exact ih j x vs[j] hj (by simp [hlt])
  | tup cs vs hl h ih =>
    refine ltL_iff.2 fun x hx => ?_
    obtain ⟨j, hj⟩ := List.getElem?_of_mem hx
    have hlt : j < vs.size := by rw [← hl]; exact (List.getElem?_eq_some_iff.1 hj).1
    exact ih j x vs[j] hj (by simp [hlt])
  | dfr cs vs hl h ih =>
    refine ltL_iff.2 fun x hx => ?_
    obtain ⟨j, hj⟩ := List.getElem?_of_mem hx
    have hlt : j < vs.length := by rw [← hl]; exact (List.getElem?_eq_some_iff.1 hj).1
    exact ih j x vs[j] hj (by simp [hlt])
  | _ => rfl
theorem VR.take {n : Nat} {x : AV} {v : Value} (h : VR ι ψ x v) : x.lt n = true → VR (ι.take n) ψ x v := by
  have pos : ∀ {a : Nat} {pl : Pl}, decide (a < n) = true → ι[a]? = some pl → (ι.take n)[a]? = some pl := fun h1 h2 => by
    rw [List.getElem?_take, if_pos (by simpa using h1)]; exact h2
  have mem : ∀ {l : List AV} {j : Nat} {x : AV}, ltL n l = true → l[j]? = some x → x.lt n = true := fun h1 h2 => ltL_iff.1 h1 _ (List.mem_of_getElem? h2)
  induction h with
  | int k m => intro _; exact .int k m
  | bool b => intro _; exact .bool b
  | str s b h => intro _; exact .str s b h
  | nilp => intro _; exact .nilp
  | own a off pl h => intro hl; exact .own a off pl (pos hl h)
  | oel a g i off ad pl h hg hs => intro hl; exact .oel a g i off ad pl (pos hl h) hg hs
  | pro cs b o cv h1 h2 ih => intro hl; exact .pro cs b o cv h1 fun j x e => ih j x e (mem hl e)
  | snil => intro _; exact .snil
  | svnil full => intro _; exact .svnil full
  | sve full a cap hf => intro _; exact .sve full a cap hf
  | sval sz full els b o cap cv hsz hcap hf h1 h2 ih => intro hl; exact .sval sz full els b o cap cv hsz hcap hf h1 fun i e j x he hj => ih i e j x he hj (lt_of_cells (mem hl he) hj)
  | sown a g m ad cap pl h hg hs => intro hl; exact .sown a g m ad cap pl (pos hl h) hg hs
  | mnil => intro _; exact .mnil
  | mown a pl h => intro hl; exact .mown a pl (pos hl h)
  | yld a pl h => intro hl; exact .yld a pl (pos hl h)
  | mval es l b ck me hb hp hl hn h1 h2 ih1 ih2 =>
    intro hlt
    exact .mval es l b ck me hb hp hl hn (fun i e m he hm => ih1 i e m he hm (ltP_iff.1 hlt _ (hp.mem_iff.1 (List.mem_of_getElem? he))).1) (fun i e m he hm => ih2 i e m he hm (ltP_iff.1 hlt _ (hp.mem_iff.1 (List.mem_of_getElem? he))).2)
  | fn f first cap vf vc hl1 hl2 h1 h2 ih1 ih2 =>
    intro hlt
    simp only [AV.lt, Bool.and_eq_true] at hlt
    exact .fn f first cap vf vc hl1 hl2 (fun j x v hx hv => ih1 j x v hx hv (mem hlt.1 hx)) (fun j x v hx hv => ih2 j x v hx hv (mem hlt.2 hx))
  | fnil => intro _; exact .fnil
  | ifc t x v h ih => intro hl; exact .ifc t x v (ih hl)
  | inil => intro _; exact .inil
  | agg cs vs hl h ih => intro hlt; exact .agg cs vs hl fun j x v hx hv => ih j x v hx hv (mem hlt hx)
  | tup cs vs hl h ih => intro hlt; exact .tup cs vs hl fun j x v hx hv => ih j x v hx hv (mem hlt hx)
  | dfr cs vs hl h ih => intro hlt; exact .dfr cs vs hl fun j x v hx hv => ih j x v hx hv (mem hlt hx)
  | val v h => intro _; exact .val v h
  | junk v => intro _; exact .junk v
mutual
theorem AV.lt_of_noref (n : Nat) : ∀ x : AV, x.noref = true → x.lt n = true
  | .own .., h => by simp [AV.noref] at h
  | .oel .., h => by simp [AV.noref] at h
  | .sown .., h => by simp [AV.noref] at h
  | .mown .., h => by simp [AV.noref] at h
  | .yld _, h => by simp [AV.noref] at h
  | .pro cs, h => ltL_of_noref n cs h
  | .sval _ els, h => ltL_of_noref n els h
  | .mval es, h => ltP_of_noref n es h
  | .fn _ a c, h => by
    simp only [AV.noref, Bool.and_eq_true] at h
    simp only [AV.lt, Bool.and_eq_true]
    exact ⟨ltL_of_noref n a h.1, ltL_of_noref n c h.2⟩
  | .ifc _ v, h => AV.lt_of_noref n v h
  | .agg cs, h => ltL_of_noref n cs h
  | .tup cs, h => ltL_of_noref n cs h
  | .dfr cs, h => ltL_of_noref n cs h
  | .int .., _ => rfl
  | .bool _, _ => rfl
  | .str _, _ => rfl
  | .nilp, _ => rfl
  | .mnil, _ => rfl
  | .snil, _ => rfl
  | .fnil, _ => rfl
  | .inil, _ => rfl
  | .val _, _ => rfl
  | .junk, _ => rfl
theorem ltL_of_noref (n : Nat) : ∀ l : List AV, norefL l = true → ltL n l = true
  | [], _ => rfl
  | x :: r, h => by
    simp only [norefL, Bool.and_eq_true] at h
    simp only [ltL, Bool.and_eq_true]
    exact ⟨AV.lt_of_noref n x h.1, ltL_of_noref n r h.2⟩
theorem ltP_of_noref (n : Nat) : ∀ l : List (AV × AV), norefP l = true → ltP n l = true
  | [], _ => rfl
  | (a, b) :: r, h => by
    simp only [norefP, Bool.and_eq_true] at h
    simp only [ltP, Bool.and_eq_true]
    exact ⟨⟨AV.lt_of_noref n a h.1.1, AV.lt_of_noref n b h.1.2⟩, ltP_of_noref n r h.2⟩
end
mutual
def AV.plain : AV → Bool
  | .own .. | .oel .. | .sown .. | .mown .. | .yld _ | .snil => false
  | .pro cs => plainL cs
  | .sval f els => !f && plainL els
  | .mval es => plainP es
  | .fn _ a c => plainL a && plainL c
  | .ifc _ v => v.plain
  | .agg cs => plainL cs
  | .tup cs => plainL cs
  | .dfr _ => false
  | _ => true
def plainL : List AV → Bool
  | [] => true
  | x :: r => x.plain && plainL r
def plainP : List (AV × AV) → Bool
  | [] => true
  | (a, b) :: r => a.plain && b.plain && plainP r
end
theorem plainL_iff {l : List AV} : plainL l = true ↔ ∀ x ∈ l, x.plain = true := by
  induction l with
  | nil => simp [plainL]
  | cons x l ih => simp [plainL, ih]
theorem plainL_map {α : Type} {f : α → AV} (h : ∀ x, (f x).plain = true) (l : List α) : plainL (l.map f) = true := by
  rw [plainL_iff]; intro x hx; obtain ⟨y, _, rfl⟩ := List.mem_map.1 hx; exact h y
def conv (S : List Blk) (fr : Nat → Bool) : Nat → AV → AV
  | 0, x => if x.plain then x else .junk
  | d + 1, x => if x.plain then x else
    match x with
    | .sown a g n => if fr a then (match S[a]? with
        | some (.arr _ sz _ g' els) => if g = g' ∧ n = els.length then (if plainL els then .sval false els else (if okEls sz (els.map (conv S fr d)) then .sval false (els.map (conv S fr d)) else .junk)) else .junk
        | _ => .junk) else x
    | .snil => .sval false []
    | .sval _ els => .sval false els
    | .own a o => if fr a then (match S[a]? with
        | some (.cells cs _) => if allLeaf ((cs.drop o).map (conv S fr d)) then .pro ((cs.drop o).map (conv S fr d)) else .junk
        | _ => .junk) else x
    | .mown a => if fr a then (match S[a]? with
        | some (.mp _ es) => .mval (es.map fun e => (e.1, conv S fr d e.2))
        | _ => .junk) else x
    | .mval es => .mval (es.map fun e => (e.1, conv S fr d e.2))
    | .agg cs => .agg (cs.map (conv S fr d))
    | .tup cs => .tup (cs.map (conv S fr d))
    | .fn f a c => .fn f (a.map (conv S fr d)) (c.map (conv S fr d))
    | .ifc t v => .ifc t (conv S fr d v)
    | x => x
end Go.Fen
