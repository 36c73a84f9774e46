/- YtecgddmmdgccfaaGreatDoorCore1. Texts of the proof of a law about texts: a layer of abstract values above the worlds, the types, the walks of the functions that the law reaches, the law and its card. Own work of an AI agent. -/
import Derived.Test.YtecgddmmdgccfaaGreatDoorCore0
import Derived.TacticsIn
import Derived.OrdersIn
import Derived.RangeFuncIn
import Derived.RecoverIn
import Derived.Lib.Hide
import Derived.Laws.Externs
import Derived.Lib.ConvBytes
import Derived.Lib.AtoiErrMem
set_option linter.all false
set_option linter.unusedVariables false
set_option linter.unusedSimpArgs false
namespace Go.Fen
open Go.RowKit
variable {P : Program} {w0 w w' : World} {ι : List Pl} {ψ ψ' : Psi} {S : List Blk}
def Frozen (w : World) (ι : List Pl) (ψ : Psi) (S : List Blk) (fr : Nat → Bool) : Prop :=
  ∀ (a : Nat) (pl : Pl) (B : Blk), fr a = true → S[a]? = some B → ι[a]? = some pl → match B with
    | .cells cs _ => ∀ j, j < cs.length → ψ.c pl.blk j = w.cell? ⟨pl.blk, j, none⟩
    | .arr _ sz _ _ els => ∀ k j, pl.sv.ownBlock = some k → j < els.length * sz → ψ.c k j = w.cell? ⟨k, j, none⟩
    | .mp _ _ => ∃ me c, w.heap[pl.blk]? = some (.map me c) ∧ ψ.m pl.blk = some (me, c)
    | .obj _ => True
    | .loop .. => True
    | .mit .. => True
    | .dead => True
theorem elem_value {e : AV} {sz : Nat} (f : Nat → Value) (hl : e.cells.length = sz) (hlf : ∀ (j : Nat) (x : AV), e.cells[j]? = some x → x.leaf = true) (hf : ∀ (j : Nat) (x : AV), e.cells[j]? = some x → VR ι ψ x (f j)) :
    ∃ c, VR ι ψ e c ∧ c.cells.size = sz ∧ ∀ j, j < sz → c.cells[j]? = some (f j) := by
  have one : e.cells = [e] → ∃ c, VR ι ψ e c ∧ c.cells.size = sz ∧ ∀ j, j < sz → c.cells[j]? = some (f j) := by
    intro he
    have h0 := hf 0 e (by rw [he]; rfl)
    have h1 := h0.oneCell (hlf 0 e (by rw [he]; rfl))
    have hs : sz = 1 := by rw [← hl, he]; rfl
    have hc : (f 0).cells = #[f 0] := by cases hv : f 0 <;> first | rfl | (rw [hv] at h1; simp [Value.oneCell'] at h1)
    refine ⟨f 0, h0, by rw [hc, hs]; rfl, fun j hj => ?_⟩
    have : j = 0 := by omega
    subst this
    rw [hc]; rfl
  cases e with
  | agg cs =>
    simp only [cells_agg] at hl hlf hf
    refine ⟨.agg ((List.range sz).map f).toArray, .agg _ _ (by simp [hl]) fun j x v hx hv => ?_, by simp [Value.cells], fun j hj => by simp [Value.cells, hj]⟩
    have hj : j < sz := by rw [← hl]; exact (List.getElem?_eq_some_iff.1 hx).1
    simp [hj] at hv
    subst hv; exact hf j x hx
  | _ => exact one rfl
theorem conv_sound (h : Rel w0 ι ψ S w) (hle : ψ.le ψ') {fr : Nat → Bool} (hfr : Frozen w ι ψ' S fr) : ∀ (d : Nat) (x : AV) (c : Value), VR ι ψ x c → VR ι ψ' (conv S fr d x) c := by
  have hext : Ext ι ψ ι ψ' := ⟨(Ext.refl ι ψ).pl, hle⟩
  intro d
  induction d with
  | zero =>
    intro x c hx
    simp only [conv]
    split
    · exact hx.mono hext
    · exact .junk c
  | succ d ih =>
    intro x c hx
    simp only [conv]
    split
    · exact hx.mono hext
    · rename_i hnr
      split
      · next a g n =>
        split
        · next hfa =>
          split
          · next e sz fz g' els hS =>
            split
            · next hg =>
              obtain ⟨rfl, rfl⟩ := hg
              cases hx with
              | sown _ _ _ ad cap pl hpl hgl hs =>
                obtain ⟨⟨hgen, hpsz⟩, hsize, hpos, _, ⟨xs, hown, hxs⟩, _⟩ := h.blk a _ pl hS hpl
                have hsv := hs hgen.symm
                have hfz := hfr a pl _ hfa hS hpl
                rcases hown.2 with ⟨hn, hn0⟩ | ⟨b, cap', cur, hv, hb', hgg, hncap, _⟩
                · rw [hn] at hsv
                  simp only [Value.slice.injEq] at hsv
                  obtain ⟨rfl, h0, rfl⟩ := hsv
                  have : els = [] := List.eq_nil_of_length_eq_zero (by omega)
                  subst this
                  simp only [plainL, if_true, List.length_nil]
                  exact .svnil _
                · rw [hv] at hsv
                  simp only [Value.slice.injEq] at hsv
                  obtain ⟨rfl, _, rfl⟩ := hsv
                  have hob : pl.sv.ownBlock = some b := by rw [hv]; rfl
                  have hxl : xs.length = els.length * sz := hown.1
                  have cellOf : ∀ (i : Nat) (e : AV) (j : Nat) (x : AV), els[i]? = some e → e.cells[j]? = some x → x.leaf = true ∧ ∃ v, xs[i * sz + j]? = some v ∧ VR ι ψ x v ∧ ψ'.c b (i * sz + j) = some v := by
                    intro i e j x he hj
                    obtain ⟨hl, v, hv1, hv2, _⟩ := hxs _ x (flat_get hsize he hj)
                    refine ⟨hl, v, hv1, hv2, ?_⟩
                    rw [hfz b (i * sz + j) hob (by rw [← hxl]; exact (List.getElem?_eq_some_iff.1 hv1).1)]
                    have := hown.cells (g := b) hob _ v hv1
                    rw [Addr.add_lit, Nat.zero_add] at this; exact this
                  let cv : Nat → Nat → Value := fun i j => (xs[i * sz + j]?).getD undef
                  have hcv : ∀ (i : Nat) (e : AV) (j : Nat) (x : AV), els[i]? = some e → e.cells[j]? = some x → x.leaf = true ∧ VR ι ψ x (cv i j) ∧ ψ'.c b (0 + i * sz + j) = some (cv i j) := by
                    intro i e j x he hj
                    obtain ⟨hl, v, hv1, hv2, hv3⟩ := cellOf i e j x he hj
                    refine ⟨hl, ?_, ?_⟩
                    · simp only [cv, hv1]; exact hv2
                    · simp only [cv, hv1, Nat.zero_add]; exact hv3
                  split
                  · exact .sval sz false els b 0 cap cv (fun i e he => hsize e (List.mem_of_getElem? he)) hncap (by simp) (fun i e j x he hj => ⟨(hcv i e j x he hj).1, (hcv i e j x he hj).2.2⟩) (fun i e j x he hj => (hcv i e j x he hj).2.1.mono hext)
                  · split
                    · next hok =>
                      have hlen : els.length = (els.map (conv S fr d)).length := by simp
                      rw [hlen]
                      refine .sval sz false _ b 0 cap cv (fun i e he => okEls_len hok e (List.mem_of_getElem? he)) (by simpa using hncap) (by simp) ?_ ?_
                      all_goals
                        intro i e' j x he' hj
                        simp only [List.getElem?_map, Option.map_eq_some_iff] at he'
                        obtain ⟨e, he, rfl⟩ := he'
                        have hel : e.cells.length = sz := hsize e (List.mem_of_getElem? he)
                        have hjl : j < sz := by
                          rw [← okEls_len hok (conv S fr d e) (List.mem_map_of_mem (List.mem_of_getElem? he))]
                          exact (List.getElem?_eq_some_iff.1 hj).1
                        obtain ⟨c', hc1, hc2, hc3⟩ := elem_value (ι := ι) (ψ := ψ) (fun j => cv i j) hel (fun j x hx => (hcv i e j x he hx).1) (fun j x hx => (hcv i e j x he hx).2.1)
                        have hconv := ih e c' hc1
                        have hnj : conv S fr d e ≠ .junk := by
                          intro hjk
                          have := okEls_junk hok (e := conv S fr d e) (List.mem_map_of_mem (List.mem_of_getElem? he))
                          rw [hjk] at this; simp [AV.isJunk] at this
                        obtain ⟨_, hcc⟩ := hconv.cells hnj
                        obtain ⟨v, hv1, hv2⟩ := hcc j x hj
                        rw [hc3 j hjl] at hv1; cases hv1
                        first
                          | exact hv2
                          | (refine ⟨?_, (hcv i e j _ he (List.getElem?_eq_getElem (by omega))).2.2⟩
                             have hm : conv S fr d e ∈ els.map (conv S fr d) := List.mem_map_of_mem (List.mem_of_getElem? he)
                             have := List.all_eq_true.1 hok _ hm
                             simp only [Bool.and_eq_true, List.all_eq_true] at this
                             exact this.2 x (List.mem_of_getElem? hj))
                    · exact .junk _
            · exact .junk _
          · exact .junk _
        · exact hx.mono hext
      · cases hx with
        | snil => exact .svnil _
      · next f els =>
        cases hx with
        | svnil => exact .svnil _
        | sve _ ad cap hf => exact .sve _ ad cap (by simp)
        | sval sz _ _ b o cap cv hsz hcap hf h1 h2 =>
          exact .sval sz false els b o cap cv hsz hcap (by simp) (fun i e j x he hj => ⟨(h1 i e j x he hj).1, hle.1 _ _ _ (h1 i e j x he hj).2⟩) (fun i e j x he hj => (h2 i e j x he hj).mono hext)
      · next a o =>
        split
        · next hfa =>
          split
          · next cs hS =>
            split
            · next hlf =>
              cases hx with
              | own _ _ pl hpl =>
                obtain ⟨_, ⟨c, T, hc, hcl, hcv⟩, _⟩ := h.blk a _ pl hS hpl
                have hfz := hfr a pl _ hfa hS hpl
                refine .pro _ pl.blk o (fun j => (c[o + j]?).getD undef) (fun j x hx => ?_) (fun j x hx => ?_)
                all_goals
                  have hx0 := hx
                  simp only [List.getElem?_map, List.getElem?_drop, Option.map_eq_some_iff] at hx
                  obtain ⟨y, hy, rfl⟩ := hx
                  obtain ⟨_, v, hv, hr⟩ := hcv _ y hy
                · refine ⟨allLeaf_get hlf hx0, ?_⟩
                  rw [hfz (o + j) (List.getElem?_eq_some_iff.1 hy).1]
                  simp [World.cell?, hc, hv]
                · simp only [hv, Option.getD_some]
                  exact ih y v hr
            · exact .junk _
          · exact .junk _
        · exact hx.mono hext
      · next a =>
        split
        · next hfa =>
          split
          · next fz es hS =>
            cases hx with
            | mown _ pl hpl =>
              obtain ⟨h0, hn, ⟨me, ck, l, h1, h2, h3, h4, h5⟩, h6⟩ := h.blk a _ pl hS hpl
              obtain ⟨me', ck', k1, k2⟩ := hfr a pl _ hfa hS hpl
              rw [h1] at k1; cases k1
              refine .mval _ (l.map fun e => (e.1, conv S fr d e.2)) _ ck me k2 (h3.map _) (by simpa using h4.1) (by simpa [List.map_map, Function.comp_def] using hn) (fun i e m he hm => ?_) (fun i e m he hm => ?_)
              all_goals
                simp only [List.getElem?_map, Option.map_eq_some_iff] at he
                obtain ⟨e0, he0, rfl⟩ := he
                obtain ⟨r1, r2⟩ := h4.2 i e0 m he0 (by simpa using hm)
              · exact r1.mono hext
              · exact ih _ _ r2
          · exact .junk _
        · exact hx.mono hext
      · next es =>
        cases hx with
        | mval _ l b ck me hb hp hl hn h1 h2 =>
          refine .mval _ (l.map fun e => (e.1, conv S fr d e.2)) b ck me (hle.2 _ _ hb) (hp.map _) (by simpa using hl) (by simpa [List.map_map, Function.comp_def] using hn) (fun i e m he hm => ?_) (fun i e m he hm => ?_)
          all_goals
            simp only [List.getElem?_map, Option.map_eq_some_iff] at he
            obtain ⟨e0, he0, rfl⟩ := he
          · exact (h1 i e0 m he0 hm).mono hext
          · exact ih _ _ (h2 i e0 m he0 hm)
      · next cs =>
        obtain ⟨vs, rfl, hl, hv⟩ := hx.agg_inv
        refine .agg _ _ (by simpa using hl) fun j x v hx hv' => ?_
        simp only [List.getElem?_map, Option.map_eq_some_iff] at hx
        obtain ⟨y, hy, rfl⟩ := hx
        obtain ⟨v2, e1, e2⟩ := hv j y hy
        rw [hv'] at e1; cases e1
        exact ih y v e2
      · next cs =>
        obtain ⟨vs, rfl, hl, hv⟩ := hx.tup_inv
        refine .tup _ _ (by simpa using hl) fun j x v hx hv' => ?_
        simp only [List.getElem?_map, Option.map_eq_some_iff] at hx
        obtain ⟨y, hy, rfl⟩ := hx
        obtain ⟨v2, e1, e2⟩ := hv j y hy
        rw [hv'] at e1; cases e1
        exact ih y v e2
      · next f a cc =>
        cases hx with
        | fn _ _ _ vf vc hl1 hl2 h1 h2 =>
          refine .fn _ _ _ _ _ (by simpa using hl1) (by simpa using hl2) (fun j x v hx hv' => ?_) (fun j x v hx hv' => ?_)
          all_goals
            simp only [List.getElem?_map, Option.map_eq_some_iff] at hx
            obtain ⟨y, hy, rfl⟩ := hx
          · exact ih y v (h1 j y v hy hv')
          · exact ih y v (h2 j y v hy hv')
      · next t v =>
        cases hx with
        | ifc _ _ c hc => exact .ifc _ _ _ (ih v c hc)
      · exact hx.mono hext
theorem Rel.leave (h : Rel w0 ι ψ S w) (n : Nat) (hlt : ∀ (i : Nat) (B : Blk), i < n → S[i]? = some B → match B with
      | .cells cs _ => ltL n cs = true
      | .arr _ _ _ _ els => ltL n els = true
      | .obj _ => True
      | .loop _ _ _ tm _ _ _ => tm.all (fun p => p.2.lt n) = true
      | .mp _ es => ltP n es = true
      | .mit cur es => ltP n es = true ∧ ∀ e, cur = some e → e.1.lt n = true ∧ e.2.lt n = true
      | .dead => True) :
    ∃ ψ', ψ.le ψ' ∧ Frozen w ι ψ' S (fun a => decide (n ≤ a)) ∧ Rel w0 (ι.take n) ψ' (S.take n) w := by
  classical
  let dropped : Nat → Prop := fun b => ∃ (i : Nat) (B : Blk) (pl : Pl), n ≤ i ∧ S[i]? = some B ∧ ι[i]? = some pl ∧ B.at pl = some b
  let droppedM : Nat → Prop := fun b => ∃ (i : Nat) (fz : Bool) (es : List (AV × AV)) (pl : Pl), n ≤ i ∧ S[i]? = some (.mp fz es) ∧ ι[i]? = some pl ∧ pl.blk = b
  let mapAt : Nat → Option (Array MapEntry × Nat) := fun b => match w.heap[b]? with
    | some (.map me c) => some (me, c)
    | _ => none
  let ψ' : Psi := { c := fun b o => if dropped b then w.cell? ⟨b, o, none⟩ else ψ.c b o, m := fun b => if droppedM b then mapAt b else ψ.m b }
  have hle : ψ.le ψ' := by
    refine ⟨fun b o v e => ?_, fun b es e => ?_⟩
    · simp only [ψ']
      split
      · exact h.psi b o v e
      · exact e
    · simp only [ψ']
      split
      · obtain ⟨hc, _⟩ := h.psim b es.1 es.2 e
        simp only [mapAt, hc]
      · exact e
  refine ⟨ψ', hle, ?_, ?_⟩
  · intro a pl B hfa hB hpl
    have ha : n ≤ a := by simpa using hfa
    cases B with
    | cells cs ty => exact fun j _ => by simp only [ψ']; rw [if_pos ⟨a, _, pl, ha, hB, hpl, rfl⟩]
    | arr e sz fz g els => exact fun k j hk _ => by simp only [ψ']; rw [if_pos ⟨a, _, pl, ha, hB, hpl, hk⟩]
    | mp fz es =>
      obtain ⟨h0, hn, ⟨me, ck, l, h1, h2, h3, h4, h5⟩, h6⟩ := h.blk a _ pl hB hpl
      exact ⟨me, ck, h1, by simp only [ψ']; rw [if_pos ⟨a, fz, es, pl, ha, hB, hpl, rfl⟩]; simp only [mapAt, h1]⟩
    | loop st pend N tm ps asg body => trivial
    | mit cur rest => trivial
    | obj o => trivial
    | dead => trivial
  · have getS : ∀ {i : Nat} {B : Blk}, (S.take n)[i]? = some B → i < n ∧ S[i]? = some B := by
      intro i B hB
      rw [List.getElem?_take] at hB
      split at hB
      · exact ⟨by assumption, hB⟩
      · cases hB
    have getι : ∀ {i : Nat} {p : Pl}, (ι.take n)[i]? = some p → i < n ∧ ι[i]? = some p := by
      intro i B hB
      rw [List.getElem?_take] at hB
      split at hB
      · exact ⟨by assumption, hB⟩
      · cases hB
    have notDropped : ∀ {i : Nat} {B : Blk} {pl : Pl} {k : Nat}, i < n → S[i]? = some B → ι[i]? = some pl → B.at pl = some k → ¬ dropped k := by
      rintro i B pl k hi hB hpl hk ⟨j, C, q, hj, hC, hq, hk2⟩
      have := h.inj i j B C pl q k hB hC hpl hq hk hk2
      omega
    have notDroppedM : ∀ {i : Nat} {B : Blk} {pl : Pl} {k : Nat}, i < n → S[i]? = some B → ι[i]? = some pl → B.at pl = some k → ¬ droppedM k := by
      rintro i B pl k hi hB hpl hk ⟨j, fz, es, q, hj, hC, hq, hk2⟩
      have := h.inj i j B _ pl q k hB hC hpl hq hk (by simp [Blk.at, hk2])
      omega
    refine ⟨h.below, fun b o v e => ?_, fun b es c e => ?_, by simp [h.len], fun i B pl hB hpl => ?_, fun b o v hb0 e => hle.1 _ _ _ (h.old b o v hb0 e), fun i j B C p q k hB hC hp hq hk1 hk2 => ?_⟩
    rotate_left
    · simp only [ψ'] at e
      split at e
      · next hd =>
        obtain ⟨i, fz, es', pl, hi, hS, hpl, rfl⟩ := hd
        obtain ⟨h0, hn, ⟨me, ck, l, h1, h2, h3, h4, h5⟩, h6⟩ := h.blk i _ pl hS hpl
        simp only [mapAt, h1, Option.some.injEq, Prod.mk.injEq] at e
        obtain ⟨rfl, rfl⟩ := e
        exact ⟨h1, h2⟩
      · exact h.psim b es c e
    rotate_left
    rotate_left
    · simp only [ψ'] at e
      split at e
      · exact e
      · exact h.psi b o v e
    · obtain ⟨hi, hB⟩ := getS hB
      obtain ⟨_, hpl⟩ := getι hpl
      have hBR := h.blk i B pl hB hpl
      have hl := hlt i B hi hB
      have hext : Ext ι ψ ι ψ' := ⟨(Ext.refl ι ψ).pl, hle⟩
      have hsame : ∀ k o, B.at pl = some k → ψ'.c k o = ψ.c k o := fun k o hk => by simp only [ψ']; rw [if_neg (notDropped hi hB hpl hk)]
      have hBR' := hBR.ext hext (fun _ _ => rfl) hsame (fun k hk => by simp only [ψ']; rw [if_neg (notDroppedM hi hB hpl hk)])
      cases B with
      | cells cs ty =>
        obtain ⟨h0, ⟨c, T, h1, h2, h3⟩, h4, h5⟩ := hBR'
        refine ⟨h0, ⟨c, T, h1, h2, fun j x e => ?_⟩, h4, h5⟩
        obtain ⟨hlf, v, hv, hr⟩ := h3 j x e
        exact ⟨hlf, v, hv, hr.take (ltL_iff.1 hl x (List.mem_of_getElem? e))⟩
      | arr e sz fz g els =>
        obtain ⟨hg, hsz, hpos, hfz, ⟨xs, hown, hxs⟩, hps⟩ := hBR'
        refine ⟨hg, hsz, hpos, hfz, ⟨xs, hown, fun j x e => ?_⟩, hps⟩
        obtain ⟨hlf, v, hv, hr, hro⟩ := hxs j x e
        refine ⟨hlf, v, hv, hr.take ?_, hro⟩
        obtain ⟨e', he1, he2⟩ := flat_inv hsz hpos e
        exact lt_of_cells (ltL_iff.1 hl e' (List.mem_of_getElem? he1)) he2
      | obj o => exact hBR'
      | loop st pend N tm ps asg body =>
        obtain ⟨h0, ⟨fn, vs, d, h1, h2, h2'⟩, h3, h4⟩ := hBR'
        exact ⟨h0, ⟨fn, vs, d, h1, h2, fun p hp => (h2' p hp).take (List.all_eq_true.1 hl p hp)⟩, h3, h4⟩
      | mp fz es =>
        obtain ⟨h0, hn, ⟨me, c, l, h1, h2, h3, h4, h5⟩, h6⟩ := hBR'
        exact ⟨h0, hn, ⟨me, c, l, h1, h2, h3, ⟨h4.1, fun i e m he hm => ⟨(h4.2 i e m he hm).1.take (ltP_iff.1 hl e (h3.mem_iff.1 (List.mem_of_getElem? he))).1, (h4.2 i e m he hm).2.take (ltP_iff.1 hl e (h3.mem_iff.1 (List.mem_of_getElem? he))).2⟩⟩, h5⟩, h6⟩
      | mit cur rest =>
        obtain ⟨h0, h1, h3, h4⟩ := hBR'
        refine ⟨h0, ?_, h3, h4⟩
        rcases h1 with h1 | ⟨mb, ck, me, seen, l, k1, k2, k4, k5, k6⟩
        · exact .inl h1
        · exact .inr ⟨mb, ck, me, seen, l, k1, k2, k4, ⟨k5.1, fun i e m he hm => ⟨(k5.2 i e m he hm).1.take (ltP_iff.1 hl.1 e (k4.mem_iff.1 (List.mem_of_getElem? he))).1, (k5.2 i e m he hm).2.take (ltP_iff.1 hl.1 e (k4.mem_iff.1 (List.mem_of_getElem? he))).2⟩⟩,
            fun e he => let ⟨b, m, q1, q2, q3, q4⟩ := k6 e he; ⟨b, m, q1, q2, q3.take (hl.2 e he).1, q4.take (hl.2 e he).2⟩⟩
      | dead => trivial
    · obtain ⟨_, hB⟩ := getS hB
      obtain ⟨_, hC⟩ := getS hC
      obtain ⟨_, hp⟩ := getι hp
      obtain ⟨_, hq⟩ := getι hq
      exact h.inj i j B C p q k hB hC hp hq hk1 hk2
theorem Rel.share (h : Rel w0 ι ψ S w) {a : Nat} {e : TypeId} {sz fz g : Nat} {els : List AV} (hS : S[a]? = some (.arr e sz fz g els)) :
    ∃ ψ', ψ.le ψ' ∧ Rel w0 ι ψ' (S.set a (.arr e sz els.length g els)) w := by
  obtain ⟨pl, hpl, hB⟩ := h.get hS
  obtain ⟨hgp, hsize, hpos, hfz, ⟨xs, hown, hxs⟩, hps⟩ := hB
  have hset : ι.set a pl = ι := set_self hpl
  have hxl : xs.length = els.length * sz := hown.1
  cases hob : pl.sv.ownBlock with
  | none =>
    refine ⟨ψ, Psi.le_refl _, ?_⟩
    have key := h.update (w' := w) (ψ' := ψ) (B' := .arr e sz els.length g els) (pl' := pl) hS hpl (Below.refl _ _) (fun _ _ _ => rfl) (by rw [hset]; exact Ext.refl _ _) ?_ (fun k hk => .inl hk) (fun b o v ev => .inl ⟨ev, by simp [Blk.at, hob]⟩) rfl
    · rw [hset] at key; exact key
    · rw [hset]
      refine ⟨hgp, hsize, hpos, Nat.le_refl _, ⟨xs, hown, fun j x ex => ?_⟩, fun k o hk => by rw [hob] at hk; cases hk⟩
      obtain ⟨h1, v, h2, h3, _⟩ := hxs j x ex
      exact ⟨h1, v, h2, h3, fun _ k hk => by rw [hob] at hk; cases hk⟩
  | some b =>
    have hcell : ∀ j v, xs[j]? = some v → w.cell? ⟨b, j, none⟩ = some v := fun j v hv => by
      have := hown.cells (g := b) hob j v hv
      rw [Addr.add_lit, Nat.zero_add] at this; exact this
    have hfl := flat_length hsize
    have hle : ψ.le (ψ.addRow b xs) := Psi.le_addRow fun o v e => by
      have ho : o < fz * sz := Nat.lt_of_not_le fun hge => by rw [hps b o hob hge] at e; cases e
      have hfb : fz * sz ≤ els.length * sz := Nat.mul_le_mul_right _ hfz
      obtain ⟨_, v2, e1, _, e3⟩ := hxs o _ (List.getElem?_eq_getElem (show o < (flat els).length by omega))
      rw [e3 ho b hob] at e; cases e
      exact e1
    have hext : Ext ι ψ ι (ψ.addRow b xs) := ⟨(Ext.refl ι ψ).pl, hle⟩
    refine ⟨ψ.addRow b xs, hle, ?_⟩
    have key := h.update (w' := w) (ψ' := ψ.addRow b xs) (B' := .arr e sz els.length g els) (pl' := pl) hS hpl (Below.refl _ _) (fun _ _ _ => rfl) (by rw [hset]; exact hext) ?_ (fun k hk => .inl hk) ?_ rfl
    · rw [hset] at key; exact key
    · rw [hset]
      refine ⟨hgp, hsize, hpos, Nat.le_refl _, ⟨xs, hown, fun j x ex => ?_⟩, fun k o hk ho => ?_⟩
      · obtain ⟨h1, v, h2, h3, _⟩ := hxs j x ex
        exact ⟨h1, v, h2, h3.mono hext, fun _ k hk => by rw [hob] at hk; cases hk; simp [Psi.addRow, h2]⟩
      · rw [hob] at hk; cases hk
        simp [Psi.addRow]; omega
    · intro b' o v ev
      simp only [Psi.addRow] at ev
      split at ev
      · next hb => subst hb; exact .inr ⟨.inl hob, hcell o v ev⟩
      · next hb => exact .inl ⟨ev, by simp [Blk.at, hob]; exact fun e => hb e.symm⟩
theorem Rel.freezeM (h : Rel w0 ι ψ S w) {a : Nat} {es : List (AV × AV)} (hS : S[a]? = some (.mp false es)) :
    ∃ ψ', ψ.le ψ' ∧ Rel w0 ι ψ' (S.set a (.mp true es)) w := by
  obtain ⟨pl, hpl, hB⟩ := h.get hS
  obtain ⟨h0, hn, ⟨me, c, l, h1, h2, h3, h4, h5⟩, h6⟩ := hB
  have h5' : ψ.m pl.blk = none := by simpa using h5
  let ψ' : Psi := { c := ψ.c, m := fun b => if b = pl.blk then some (me, c) else ψ.m b }
  have hle : ψ.le ψ' := by
    refine ⟨fun _ _ _ e => e, fun b es e => ?_⟩
    simp only [ψ']
    split
    · next hb => subst hb; rw [h5'] at e; cases e
    · exact e
  have hext : Ext ι ψ ι ψ' := ⟨(Ext.refl ι ψ).pl, hle⟩
  have hal : a < S.length := (List.getElem?_eq_some_iff.1 hS).1
  refine ⟨ψ', hle, h.below, h.psi, fun b es' c' e => ?_, by simp [h.len], fun i B q hB hq => ?_, fun b o v hb0 e => hle.1 _ _ _ (h.old b o v hb0 e), fun i j B C p q k hB hC hp hq hk1 hk2 => ?_⟩
  · simp only [ψ'] at e
    split at e
    · next hb => subst hb; cases e; exact ⟨h1, h2⟩
    · exact h.psim b es' c' e
  · by_cases hi : i = a
    · subst hi
      rw [hpl] at hq; cases hq
      simp [hal] at hB
      subst hB
      exact ⟨h0, hn, ⟨me, c, l, h1, h2, h3, h4.mono hext, by simp [ψ']⟩, h6⟩
    · rw [List.getElem?_set_ne (by omega)] at hB
      refine (h.blk i B q hB hq).ext hext (fun _ _ => rfl) (fun _ _ _ => rfl) (fun k hk => ?_)
      simp only [ψ']
      rw [if_neg]
      intro e
      exact hi (h.inj i a B _ q pl k hB hS hq hpl hk (by simp [Blk.at, e]))
  · have back : ∀ (i : Nat) (B : Blk) (p : Pl), (S.set a (.mp true es))[i]? = some B → ∃ B0, S[i]? = some B0 ∧ B0.at p = B.at p := by
      intro i B p hB
      by_cases hi : i = a
      · subst hi
        simp [hal] at hB
        subst hB
        exact ⟨_, hS, rfl⟩
      · rw [List.getElem?_set_ne (by omega)] at hB
        exact ⟨B, hB, rfl⟩
    obtain ⟨B0, e1, e2⟩ := back i B p hB
    obtain ⟨C0, e3, e4⟩ := back j C q hC
    exact h.inj i j B0 C0 p q k e1 e3 hp hq (e2.trans hk1) (e4.trans hk2)
end Go.Fen
namespace Go.Fen
open Go.RowKit
inductive AX where
  | normal | exit (id : Nat) | goto (l : Nat) | ret | panic (v : AV)
inductive AOut where
  | ret (v : AV) | panic (v : AV)
def XR (ι : List Pl) (ψ : Psi) : AX → Exit → Prop
  | .normal, .normal => True
  | .exit i, .exit j => i = j
  | .goto i, .goto j => i = j
  | .ret, .ret => True
  | .panic v, .panic ch => ∃ c, ch = [{ v := c, recovered := false }] ∧ VR ι ψ v c
  | _, _ => False
def OutR (ι : List Pl) (ψ : Psi) : AOut → Ending → Prop
  | .ret v, .returned c => VR ι ψ v c
  | .panic v, .panicked ch => ∃ c, ch = [{ v := c, recovered := false }] ∧ VR ι ψ v c
  | _, _ => False
abbrev Env := Nat → AV
abbrev APost := AX → Env → List Blk → Prop
def Post (w0 : World) (n0 N : Nat) (ι : List Pl) (ψ : Psi) (Q : APost) (e : Exit) (a : Act) (w : World) : Prop :=
  ∃ ι' ψ' x env S, Ext (ι.take n0) ψ ι' ψ' ∧ Rel w0 ι' ψ' S w ∧ EnvR ι' ψ' N env a ∧ XR ι' ψ' x e ∧ Q x env S
inductive KI where
  | code (c : Code)
  | ops (all : Array Oper) (l : List Oper)
  | lp (c : Code)
def FR (r : Option Nat) : Fence := { Fence.wide with round := r }
theorem FR_none : FR none = Fence.wide := rfl
theorem FR_round (r : Option Nat) : (FR r).round = r := rfl
theorem callsIn_FR {r : Option Nat} {n : Nat} {P : Program} {f : FuncId} {args : Array Value} {w : World} {R : Ending → World → Prop} (h : Calls P f args w R) : CallsIn (FR r) n P f args w R :=
  (callsIn_wide (n := n)).2 h
theorem room_FR (r : Option Nat) (n : Nat) : (FR r).room n := fun _ h => by simp [FR, Fence.wide] at h
theorem depth_FR (r : Option Nat) {n : Nat} : (FR r).depth.isSome = true → 1 ≤ n := fun h => by simp [FR, Fence.wide] at h
def LW (P : Program) (r : Option Nat) (Q : Exit → Act → World → Prop) (c : Code) (a : Act) (w : World) : Prop :=
  ∀ (b : Frame) (k : List Item) (cs : List Frame), b.roundOf = r → ∃ e a' w', Q e a' w' ∧ ArrivesIn (Machine.fenced P (FR r)) P (lone (b.atR a (.inLoop c :: k)) cs w) b k cs e a' w'
theorem LW.round {P : Program} {r : Option Nat} {Q : Exit → Act → World → Prop} {c : Code} {a : Act} {w : World} (h : c.wpIn (FR r) 0 P (Exit.then (LW P r Q c) Q) a w) (b : Frame) (k : List Item) (cs : List Frame) (hb : b.roundOf = r) :
    ∃ e a' w', Q e a' w' ∧ ArrivesIn (Machine.fenced P (FR r)) P (lone (b.atR a (.code c :: .inLoop c :: k)) cs w) b k cs e a' w' := by
  obtain ⟨e, a₁, w₁, hq, harr⟩ := h b (.inLoop c :: k) cs hb trivial (room_FR _ _)
  cases e with
  | normal =>
    obtain ⟨e2, a2, w2, hq2, harr2⟩ := hq b k cs hb
    exact ⟨e2, a2, w2, hq2, .of_steps harr harr2⟩
  | exit id => exact ⟨_, a₁, w₁, hq, .pass (x := .inLoop c) rfl (fun _ _ => .inl (by simp)) harr⟩
  | goto l => exact ⟨_, a₁, w₁, hq, .pass (x := .inLoop c) rfl (fun _ _ => .inl (by simp)) harr⟩
  | ret => exact ⟨_, a₁, w₁, hq, .pass (x := .inLoop c) rfl (fun _ _ => .inl (by simp)) harr⟩
  | panic ch => exact ⟨_, a₁, w₁, hq, .pass (x := .inLoop c) rfl (fun _ _ => .inl (by simp)) harr⟩
  | outgrown => exact ⟨_, a₁, w₁, hq, .pass (x := .inLoop c) rfl (fun _ _ => .inl (by simp)) harr⟩
theorem LW.head {P : Program} {r : Option Nat} {Q : Exit → Act → World → Prop} {c : Code} {a : Act} {w : World} (h : c.wpIn (FR r) 0 P (Exit.then (LW P r Q c) Q) a w) : LW P r Q c a w := by
  intro b k cs hb
  obtain ⟨e, a', w', hq, harr⟩ := LW.round h b k cs hb
  exact ⟨e, a', w', hq, .of_steps (.one (fenced_calm (n := 0) (fr := b.atR a (.inLoop c :: k)) trivial (room_FR _ _) rfl) stepR_inLoop) harr⟩
theorem LW.loop {P : Program} {r : Option Nat} {Q : Exit → Act → World → Prop} {c : Code} {a : Act} {w : World} (h : c.wpIn (FR r) 0 P (Exit.then (LW P r Q c) Q) a w) : (Code.loop c).wpIn (FR r) 0 P Q a w := by
  intro b k cs hb _ _
  obtain ⟨e, a', w', hq, harr⟩ := LW.round h b k cs hb
  exact ⟨e, a', w', hq, .of_steps (.one (fenced_calm (n := 0) (fr := b.atR a (.code (.loop c) :: k)) trivial (room_FR _ _) rfl) stepR_loop) harr⟩
theorem LW.mono {P : Program} {r : Option Nat} {Q Q' : Exit → Act → World → Prop} {c : Code} {a : Act} {w : World} (h : LW P r Q c a w) (hq : ∀ e a w, Q e a w → Q' e a w) : LW P r Q' c a w :=
  fun b k cs hb => let ⟨e, a', w', q, r⟩ := h b k cs hb; ⟨e, a', w', hq _ _ _ q, r⟩
def KI.wp (P : Program) (r : Option Nat) (Q : Exit → Act → World → Prop) : KI → Act → World → Prop
  | .code c, a, w => c.wpIn (FR r) 0 P Q a w
  | .lp c, a, w => LW P r Q c a w
  | .ops all l, a, w => wpListIn (FR r) 0 P all Q l a w
theorem upon_mono {P : Program} {F : Fence} {n : Nat} {o : Oper} {a : Act} {K K' : Act → World → Prop} {Q Q' : Exit → Act → World → Prop} (hk : ∀ a w, K a w → K' a w) (hq : ∀ e a w, Q e a w → Q' e a w) :
    ∀ r, o.uponIn F n P a K Q r → o.uponIn F n P a K' Q' r := by
  intro r h
  unfold Oper.uponIn at h ⊢
  split at h
  · exact hk _ _ h
  · exact hk _ _ h
  · exact hk _ _ h
  · refine ⟨h.1, h.2.mono fun e w' he => ?_⟩
    cases e with
    | returned v => exact hk _ _ he
    | panicked ch => exact hq _ _ _ he
    | outgrown => obtain ⟨a₀, w₀, h0⟩ := he; exact ⟨a₀, w₀, hq _ _ _ h0⟩
  · exact ⟨h.1, h.2.mono fun v w' he => hk _ _ he⟩
  · refine ⟨h.1, h.2.mono fun e w' he => ?_⟩
    cases e with
    | returned v => exact hk _ _ he
    | panicked ch => exact hq _ _ _ he
    | outgrown => obtain ⟨a₀, w₀, h0⟩ := he; exact ⟨a₀, w₀, hq _ _ _ h0⟩
  · exact hq _ _ _ h
  · exact h.elim
theorem list_mono {P : Program} {F : Fence} {all : Array Oper} {Q Q' : Exit → Act → World → Prop} (hq : ∀ e a w, Q e a w → Q' e a w) : ∀ (l : List Oper) (a : Act) (w : World), wpListIn F 0 P all Q l a w → wpListIn F 0 P all Q' l a w
  | [], _, _, h => hq _ _ _ h
  | o :: l, a, w, h => by
    unfold wpListIn at h ⊢
    split
    · next hw =>
      rw [if_pos hw] at h
      exact ⟨h.1, upon_mono (list_mono hq l) hq _ h.2⟩
    · next hw =>
      rw [if_neg hw] at h
      exact ⟨h.1, list_mono hq l _ _ h.2⟩
theorem KI.mono {P : Program} {r : Option Nat} {it : KI} {Q Q' : Exit → Act → World → Prop} {a : Act} {w : World} (h : it.wp P r Q a w) (hq : ∀ e a w, Q e a w → Q' e a w) : it.wp P r Q' a w := by
  cases it with
  | code c => exact wpIn_mono h hq
  | lp c => exact LW.mono h hq
  | ops all l => exact list_mono hq l a w h
theorem wpListIn_do {P : Program} {r : Option Nat} {all : Array Oper} {Q : Exit → Act → World → Prop} {o : Oper} {l : List Oper} {a : Act} {w : World} (hw : Region.wanted o (yielded all a.tmps) = true) (hd : ∀ c, o.op ≠ .defer c)
    (h : o.uponIn (FR r) 0 P a (wpListIn (FR r) 0 P all Q l) Q ((execOp a.eval o).run P w)) : wpListIn (FR r) 0 P all Q (o :: l) a w := by
  unfold wpListIn
  rw [if_pos hw]
  refine ⟨fun _ _ => trivial, ?_⟩
  rw [Oper.semAt_eq _ _ _ hd]; exact h
theorem wpListIn_not {P : Program} {r : Option Nat} {all : Array Oper} {Q : Exit → Act → World → Prop} {o : Oper} {l : List Oper} {a : Act} {w : World} (hw : Region.wanted o (yielded all a.tmps) = false)
    (h : wpListIn (FR r) 0 P all Q l (a.put o.dst undef) w) : wpListIn (FR r) 0 P all Q (o :: l) a w := by
  unfold wpListIn
  rw [if_neg (by rw [hw]; simp)]
  exact ⟨fun _ _ => trivial, h⟩
def WP (P : Program) (w0 : World) (n0 N : Nat) (r : Option Nat) (it : KI) (Q : APost) (env : Env) (S : List Blk) : Prop :=
  ∀ ι ψ w a, Rel w0 ι ψ S w → EnvR ι ψ N env a → it.wp P r (Post w0 n0 N ι ψ Q) a w
inductive TI where
  | it (i : KI)
  | blk (id : Nat)
def RunX (P : Program) (w0 : World) (n0 N : Nat) (r : Option Nat) : List TI → APost → APost
  | [], Q => Q
  | .it i :: k, Q => fun x env S => match x with
    | .normal => WP P w0 n0 N r i (RunX P w0 n0 N r k Q) env S
    | x => RunX P w0 n0 N r k Q x env S
  | .blk id :: k, Q => fun x env S => match x with
    | .exit j => if j = id then RunX P w0 n0 N r k Q .normal env S else RunX P w0 n0 N r k Q (.exit j) env S
    | x => RunX P w0 n0 N r k Q x env S
section
variable {P : Program} {w0 : World} {n0 N : Nat} {r : Option Nat} {Q : APost} {k : List TI} {env : Env} {S : List Blk}
theorem Ext.take {ι ι' : List Pl} {ψ ψ' : Psi} (h : Ext ι ψ ι' ψ') (n : Nat) : Ext (ι.take n) ψ ι' ψ' :=
  ⟨fun i p hp => h.pl i p (by rw [List.getElem?_take] at hp; split at hp; exact hp; cases hp), h.psi⟩
theorem Ext.chain {ι ι' ι'' : List Pl} {ψ ψ' ψ'' : Psi} {n : Nat} (h : Ext (ι.take n) ψ ι' ψ') (h2 : Ext (ι'.take n) ψ' ι'' ψ'') : Ext (ι.take n) ψ ι'' ψ'' := by
  refine ⟨fun i p hp => ?_, Psi.le_trans h.psi h2.psi⟩
  have hi : i < n := by have := (List.getElem?_eq_some_iff.1 hp).1; simp at this; omega
  obtain ⟨p1, h1, hb1, hg1, he1⟩ := h.pl i p hp
  obtain ⟨p2, h2, hb2, hg2, he2⟩ := h2.pl i p1 (by rw [List.getElem?_take, if_pos hi]; exact h1)
  refine ⟨p2, h2, hb2.trans hb1, Nat.le_trans hg1 hg2, fun e => ?_⟩
  have e1 : p.gen = p1.gen := by omega
  have e2 : p1.gen = p2.gen := by omega
  rw [he2 e2, he1 e1]
theorem Post.chain {ι ι' : List Pl} {ψ ψ' : Psi} {e : Exit} {a : Act} {w : World} (h : Ext (ι.take n0) ψ ι' ψ') (hp : Post w0 n0 N ι' ψ' Q e a w) : Post w0 n0 N ι ψ Q e a w := by
  obtain ⟨ι2, ψ2, x, env, S, h1, h2, h3, h4, h5⟩ := hp
  exact ⟨ι2, ψ2, x, env, S, h.chain h1, h2, h3, h4, h5⟩
theorem Post.here {ι : List Pl} {ψ : Psi} {e : Exit} {a : Act} {w : World} {x : AX} (hR : Rel w0 ι ψ S w) (hE : EnvR ι ψ N env a) (hx : XR ι ψ x e) (hq : Q x env S) : Post w0 n0 N ι ψ Q e a w :=
  ⟨ι, ψ, x, env, S, (Ext.refl ι ψ).take n0, hR, hE, hx, hq⟩
theorem x_nil (h : Q .normal env S) : RunX P w0 n0 N r [] Q .normal env S := h
theorem x_skip (h : RunX P w0 n0 N r k Q .normal env S) : RunX P w0 n0 N r (.it (.code .skip) :: k) Q .normal env S :=
  fun _ _ _ _ hR hE => wpIn_skip (Post.here hR hE (x := .normal) trivial h)
theorem x_label {l : Nat} (h : RunX P w0 n0 N r k Q .normal env S) : RunX P w0 n0 N r (.it (.code (.label l)) :: k) Q .normal env S :=
  fun _ _ _ _ hR hE => wpIn_label (Post.here hR hE (x := .normal) trivial h)
theorem x_exit {id : Nat} (h : RunX P w0 n0 N r k Q (.exit id) env S) : RunX P w0 n0 N r (.it (.code (.exit id)) :: k) Q .normal env S :=
  fun _ _ _ _ hR hE => wpIn_exit (Post.here hR hE (x := .exit id) rfl h)
theorem x_ret (h : RunX P w0 n0 N r k Q .ret env S) : RunX P w0 n0 N r (.it (.code .ret) :: k) Q .normal env S :=
  fun _ _ _ _ hR hE => wpIn_ret (Post.here hR hE (x := .ret) trivial h)
theorem x_seq {c d : Code} (h : RunX P w0 n0 N r (.it (.code c) :: .it (.code d) :: k) Q .normal env S) : RunX P w0 n0 N r (.it (.code (.seq c d)) :: k) Q .normal env S := by
  intro ι ψ w a hR hE
  refine wpIn_seq (wpIn_mono (h ι ψ w a hR hE) fun e a' w' hp => ?_)
  obtain ⟨ι', ψ', x, env', S', h1, h2, h3, h4, h5⟩ := hp
  have h40 := h4
  cases x with
  | normal =>
    cases e <;> simp only [XR] at h4
    exact wpIn_mono (h5 ι' ψ' w' a' h2 h3) fun e2 a2 w2 hp2 => hp2.chain h1
  | _ =>
    cases e <;> simp only [XR] at h4 <;> exact ⟨ι', ψ', _, env', S', h1, h2, h3, h40, h5⟩
theorem x_cond {c : Operand} {d e : Code} {t : Bool} (hc : evalA w0 env c = .bool t) (h : RunX P w0 n0 N r (.it (.code (if t then d else e)) :: k) Q .normal env S) : RunX P w0 n0 N r (.it (.code (.cond c d e)) :: k) Q .normal env S := by
  intro ι ψ w a hR hE
  have := hE.eval hR c
  rw [hc] at this
  exact wpIn_cond this.bool_inv (h ι ψ w a hR hE)
theorem x_block {id : Nat} {c : Code} (h : RunX P w0 n0 N r (.it (.code c) :: .blk id :: k) Q .normal env S) : RunX P w0 n0 N r (.it (.code (.block id c)) :: k) Q .normal env S := by
  intro ι ψ w a hR hE
  refine wpIn_block (wpIn_mono (h ι ψ w a hR hE) fun e a' w' hp => ?_)
  obtain ⟨ι', ψ', x, env', S', h1, h2, h3, h4, h5⟩ := hp
  have h40 := h4
  cases x with
  | exit j =>
    cases e <;> simp only [XR] at h4
    subst h4
    simp only [RunX] at h5
    simp only [Exit.inBlock]
    split at h5
    · next hj => rw [if_pos hj]; exact ⟨ι', ψ', .normal, env', S', h1, h2, h3, trivial, h5⟩
    · next hj => rw [if_neg hj]; exact ⟨ι', ψ', .exit j, env', S', h1, h2, h3, rfl, h5⟩
  | _ =>
    cases e <;> simp only [XR] at h4 <;> exact ⟨ι', ψ', _, env', S', h1, h2, h3, h40, h5⟩
theorem x_round {c : Code} {ι : List Pl} {ψ : Psi} {w : World} {a : Act} (h : RunX P w0 n0 N r (.it (.code c) :: .it (.lp c) :: k) Q .normal env S) (hR : Rel w0 ι ψ S w) (hE : EnvR ι ψ N env a) :
    c.wpIn (FR r) 0 P (Exit.then (LW P r (Post w0 n0 N ι ψ (RunX P w0 n0 N r k Q)) c) (Post w0 n0 N ι ψ (RunX P w0 n0 N r k Q))) a w := by
  refine wpIn_mono (h ι ψ w a hR hE) fun e a' w' hp => ?_
  obtain ⟨ι', ψ', x, env', S', h1, h2, h3, h4, h5⟩ := hp
  have h40 := h4
  cases x with
  | normal =>
    cases e <;> simp only [XR] at h4
    exact LW.mono (h5 ι' ψ' w' a' h2 h3) fun e2 a2 w2 hp2 => hp2.chain h1
  | _ =>
    cases e <;> simp only [XR] at h4 <;> exact ⟨ι', ψ', _, env', S', h1, h2, h3, h40, h5⟩
theorem x_lp {c : Code} (h : RunX P w0 n0 N r (.it (.code c) :: .it (.lp c) :: k) Q .normal env S) : RunX P w0 n0 N r (.it (.lp c) :: k) Q .normal env S :=
  fun _ _ _ _ hR hE => LW.head (x_round h hR hE)
theorem x_loop {c : Code} (h : RunX P w0 n0 N r (.it (.code c) :: .it (.lp c) :: k) Q .normal env S) : RunX P w0 n0 N r (.it (.code (.loop c)) :: k) Q .normal env S :=
  fun _ _ _ _ hR hE => LW.loop (x_round h hR hE)
theorem x_region {id : Nat} {ops : Array Oper} (h : RunX P w0 n0 N r (.it (.ops ops ops.toList) :: k) Q .normal env S) : RunX P w0 n0 N r (.it (.code (.region id ops false)) :: k) Q .normal env S :=
  fun ι ψ w a hR hE => wpIn_region_list (h ι ψ w a hR hE)
theorem x_ops_nil {all : Array Oper} (h : RunX P w0 n0 N r k Q .normal env S) : RunX P w0 n0 N r (.it (.ops all []) :: k) Q .normal env S :=
  fun _ _ _ _ hR hE => Post.here hR hE (x := .normal) trivial h
def putA (env : Env) (d : Option Nat) (v : AV) : Env :=
  match d with
  | some t => upd env t v
  | none => env
def guardA (all : Array Oper) (env : Env) (o : Oper) : Option Bool :=
  match o.guard with
  | none => some true
  | some (j, want) => match all[j]? with
    | some oj => match oj.dst with
      | some d => match env d with
        | .bool b => some (b == want)
        | .tup [] => some false
        | _ => none
      | none => none
    | none => none
def dstOk (N : Nat) : Option Nat → Bool
  | some d => decide (d < N)
  | none => true
theorem EnvR.putA {ι : List Pl} {ψ : Psi} {a : Act} {d : Option Nat} {v : AV} {c : Value} (h : EnvR ι ψ N env a) (hv : VR ι ψ v c) (hd : dstOk N d = true) : EnvR ι ψ N (putA env d v) (a.put d c) := by
  cases d with
  | none => exact h
  | some t => exact h.put hv (by simpa [dstOk] using hd)
theorem guardA_sound {ι : List Pl} {ψ : Psi} {all : Array Oper} {o : Oper} {a : Act} {b : Bool} (hE : EnvR ι ψ N env a) (h : guardA all env o = some b) : Region.wanted o (yielded all a.tmps) = b := by
  unfold guardA at h
  unfold Region.wanted
  cases hg : o.guard with
  | none => simp [hg] at h; exact h.symm
  | some p =>
    obtain ⟨j, want⟩ := p
    simp only [hg] at h ⊢
    split at h
    · next oj hj =>
      split at h
      · next d hd =>
        split at h
        · next b' hb =>
          simp at h; subst h
          have ht := hE.tmp d
          rw [hb] at ht
          have ht := ht.bool_inv
          have hlt : d < a.tmps.size := by
            refine Nat.lt_of_not_le fun hge => ?_
            rw [Array.getD_eq_getD_getElem?, Array.getElem?_eq_none hge] at ht
            cases ht
          have hgt : a.tmps[d]? = some (.bool b') := by
            rw [Array.getD_eq_getD_getElem?, Array.getElem?_eq_getElem hlt] at ht
            simp at ht
            rw [Array.getElem?_eq_getElem hlt, ht]
          simp [yielded, hj, hd, hgt]
        · next hb =>
          simp at h; subst h
          have ht := hE.tmp d
          rw [hb] at ht
          generalize hc : a.tmps.getD d undef = c at ht
          cases ht with
          | tup _ vs hl _ =>
            have hy : yielded all a.tmps j = none := by
              simp only [yielded, hj, hd, Option.bind_some]
              rw [Array.getD_eq_getD_getElem?] at hc
              cases hq : a.tmps[d]? with
              | none => rfl
              | some q => rw [hq] at hc; simp at hc; subst hc; rfl
            simp [hy]
        · cases h
      · cases h
    · cases h
theorem x_step {all : Array Oper} {o : Oper} {l : List Oper} {v : AV} {S' : List Blk} (hg : guardA all env o = some true) (hs : stepF P S (evalA w0 env) o.op = some (v, S')) (hd : dstOk N o.dst = true)
    (h : RunX P w0 n0 N r (.it (.ops all l) :: k) Q .normal (putA env o.dst v) S') : RunX P w0 n0 N r (.it (.ops all (o :: l)) :: k) Q .normal env S := by
  intro ι ψ w a hR hE
  obtain ⟨ι', ψ', w', nx, cv, h1, h2, h3, h4, h5⟩ := stepF_sound hR (fun x => hE.eval hR x) hs
  have hw := guardA_sound hE hg
  refine wpListIn_do hw (fun c hc => by rw [hc] at hs; simp [stepF, pureF] at hs) ?_
  have hnext : wpListIn (FR r) 0 P all (Post w0 n0 N ι ψ (RunX P w0 n0 N r k Q)) l (a.put o.dst cv) w' :=
    KI.mono (it := .ops all l) (h ι' ψ' w' _ h4 ((hE.mono h3).putA h5 hd)) fun e a2 w2 hp => hp.chain (h3.take n0)
  rw [h1]
  rcases h2 with rfl | ⟨rfl, rfl⟩
  · exact hnext
  · exact hnext
theorem x_unwanted {all : Array Oper} {o : Oper} {l : List Oper} (hg : guardA all env o = some false) (hd : dstOk N o.dst = true)
    (h : RunX P w0 n0 N r (.it (.ops all l) :: k) Q .normal (putA env o.dst (.tup [])) S) : RunX P w0 n0 N r (.it (.ops all (o :: l)) :: k) Q .normal env S := by
  intro ι ψ w a hR hE
  have hw := guardA_sound hE hg
  refine wpListIn_not hw ?_
  exact h ι ψ w _ hR (hE.putA (.tup _ _ rfl (by simp)) hd)
def ACall (P : Program) (w0 : World) (f : FuncId) (args : List AV) (S : List Blk) (R : AOut → List Blk → Prop) : Prop :=
  (∀ (a : Array Value) (w : World), (callFunc f a).run P w = .ok (.enter f a) w) ∧
  ∀ ι ψ w (cargs : Array Value), Rel w0 ι ψ S w → args.length = cargs.size → (∀ (j : Nat) (x : AV) (c : Value), args[j]? = some x → cargs[j]? = some c → VR ι ψ x c) →
    Calls P f cargs w fun e w' => ∃ ι' ψ' out S', Ext ι ψ ι' ψ' ∧ Rel w0 ι' ψ' S' w' ∧ OutR ι' ψ' out e ∧ R out S'
theorem ACall.mono {f : FuncId} {args : List AV} {R R' : AOut → List Blk → Prop} (h : ACall P w0 f args S R) (hr : ∀ o S', R o S' → R' o S') : ACall P w0 f args S R' :=
  ⟨h.1, fun ι ψ w cargs hR hl hv => (h.2 ι ψ w cargs hR hl hv).mono fun _ _ ⟨ι', ψ', out, S', h1, h2, h3, h4⟩ => ⟨ι', ψ', out, S', h1, h2, h3, hr _ _ h4⟩⟩
def afterCall (P : Program) (w0 : World) (n0 N : Nat) (r : Option Nat) (all : Array Oper) (l : List Oper) (k : List TI) (Q : APost) (env : Env) (dst : Option Nat) : AOut → List Blk → Prop
  | .ret v, S => RunX P w0 n0 N r (.it (.ops all l) :: k) Q .normal (putA env dst v) S
  | .panic v, S => RunX P w0 n0 N r k Q (.panic v) env S
def markFull (S : List Blk) (a : Nat) : List Blk :=
  match S[a]? with
  | some (.arr e sz _ g els) => S.set a (.arr e sz els.length g els)
  | some (.mp false es) => S.set a (.mp true es)
  | _ => S
def frA (S : List Blk) (a : Nat) : Bool :=
  match S[a]? with
  | some (.arr _ _ fz _ els) => fz == els.length
  | some (.mp fz _) => fz
  | _ => false
theorem markFull_sound {ι : List Pl} {ψ : Psi} {w : World} (h : Rel w0 ι ψ S w) (a : Nat) : ∃ ψ', ψ.le ψ' ∧ Rel w0 ι ψ' (markFull S a) w := by
  unfold markFull
  split
  · next e sz fz g els hS => exact h.share hS
  · next es hS => exact h.freezeM hS
  · exact ⟨ψ, Psi.le_refl _, h⟩
theorem markAll_sound {ι : List Pl} {w : World} : ∀ (l : List Nat) (S : List Blk) (ψ : Psi), Rel w0 ι ψ S w → ∃ ψ', ψ.le ψ' ∧ Rel w0 ι ψ' (l.foldl markFull S) w
  | [], _, ψ, h => ⟨ψ, Psi.le_refl _, h⟩
  | a :: l, S, _, h => by
    obtain ⟨ψ1, h1, h2⟩ := markFull_sound h a
    obtain ⟨ψ2, h3, h4⟩ := markAll_sound l _ ψ1 h2
    exact ⟨ψ2, Psi.le_trans h1 h3, h4⟩
theorem frozen_full {ι : List Pl} {ψ : Psi} {w : World} (h : Rel w0 ι ψ S w) : Frozen w ι ψ S (frA S) := by
  intro a pl B hfa hB hpl
  cases B with
  | cells cs ty => simp [frA, hB] at hfa
  | arr e sz fz g els =>
    simp [frA, hB] at hfa
    intro kb j hk hj
    obtain ⟨⟨hgen, hpsz⟩, hsize, hpos, hfz, ⟨xs, hown, hxs⟩, _⟩ := h.blk a _ pl hB hpl
    obtain ⟨_, v, hv, _, hro⟩ := hxs j _ (List.getElem?_eq_getElem (show j < (flat els).length by rw [flat_length hsize]; exact hj))
    rw [hro (by rw [hfa]; exact hj) kb hk]
    have := hown.cells (g := kb) hk j v hv
    rw [Addr.add_lit, Nat.zero_add] at this; exact this.symm
  | mp fz es =>
    simp [frA, hB] at hfa
    subst hfa
    obtain ⟨h0, hn, ⟨me, ck, l, h1, h2, h3, h4, h5⟩, h6⟩ := h.blk a _ pl hB hpl
    exact ⟨me, ck, h1, by simpa using h5⟩
  | loop st pend N tm ps asg body => trivial
  | mit cur rest => trivial
  | obj o => trivial
  | dead => trivial
theorem x_call {all : Array Oper} {o : Oper} {l : List Oper} {fop : Operand} {args : Array Operand} {tys : Array TypeId} {f : FuncId} {first cap : List AV} (sh : List Nat)
    (hg : guardA all env o = some true) (ho : o.op = .call ⟨.value fop, args, tys⟩) (hf : evalA w0 env fop = .fn (.func f) first cap) (hd : dstOk N o.dst = true)
    (h : ACall P w0 f ((first ++ args.toList.map (evalA w0 env) ++ cap).map (conv (sh.foldl markFull S) (frA (sh.foldl markFull S)) 4)) (sh.foldl markFull S) (afterCall P w0 n0 N r all l k Q env o.dst)) :
    RunX P w0 n0 N r (.it (.ops all (o :: l)) :: k) Q .normal env S := by
  intro ι ψ w a hR hE
  have hw := guardA_sound hE hg
  refine wpListIn_do hw (fun c hc => by rw [hc] at ho; cases ho) ?_
  obtain ⟨ψ1, hle, hR1⟩ := markAll_sound (w0 := w0) sh S ψ hR
  have hE1 : EnvR ι ψ1 N env a := hE.mono ⟨(Ext.refl ι ψ).pl, hle⟩
  have hfr := frozen_full hR1
  have hvf := hE1.eval hR1 fop
  rw [hf] at hvf
  generalize hcf : a.eval fop = cf at hvf
  cases hvf with
  | fn _ _ _ vf vc hl1 hl2 h1 h2 =>
    have hres : (execOp a.eval o).run P w = .ok (.enter f (vf ++ args.map a.eval ++ vc)) w := by
      simp [execOp, ho, resolve, hcf, Deferred.ofValue, invoke, h.1]
    rw [hres]
    refine ⟨fun h => depth_FR r h, callsIn_FR (r := r) ?_⟩
    refine (h.2 ι ψ1 w (vf ++ args.map a.eval ++ vc) hR1 (by simp [hl1, hl2]) ?_).mono ?_
    · intro j x c hx hc
      rw [List.getElem?_map, Option.map_eq_some_iff] at hx
      obtain ⟨y, hy, rfl⟩ := hx
      refine conv_sound hR1 (Psi.le_refl _) hfr 4 y c ?_
      have hc' : (vf.toList ++ args.toList.map a.eval ++ vc.toList)[j]? = some c := by
        rw [← Array.getElem?_toList] at hc
        simpa using hc
      by_cases hj1 : j < first.length
      · rw [List.append_assoc, List.getElem?_append_left hj1] at hy
        rw [List.append_assoc, List.getElem?_append_left (by simp; omega)] at hc'
        exact h1 j y c hy (by simpa using hc')
      · by_cases hj2 : j < first.length + args.size
        · rw [List.append_assoc, List.getElem?_append_right (by omega), List.getElem?_append_left (by simp; omega)] at hy
          rw [List.append_assoc, List.getElem?_append_right (by simp; omega), List.getElem?_append_left (by simp; omega)] at hc'
          simp only [Array.length_toList, ← hl1, List.getElem?_map, Option.map_eq_some_iff] at hy hc'
          obtain ⟨z, hz, rfl⟩ := hy
          obtain ⟨z', hz', rfl⟩ := hc'
          rw [hz] at hz'; cases hz'
          exact hE1.eval hR1 z
        · rw [List.getElem?_append_right (by simp; omega)] at hy
          rw [List.getElem?_append_right (by simp; omega)] at hc'
          simp only [List.length_append, List.length_map, Array.length_toList, ← hl1] at hy hc'
          exact h2 _ y c hy (by simpa using hc')
    · rintro e w' ⟨ι', ψ', out, S', e1, e2, e3, e4⟩
      have hx : Ext ι ψ ι' ψ' := (show Ext ι ψ ι ψ1 from ⟨(Ext.refl ι ψ).pl, hle⟩).trans e1
      cases out with
      | ret v =>
        cases e <;> simp only [OutR] at e3
        exact KI.mono (it := .ops all l) (e4 ι' ψ' w' _ e2 ((hE1.mono e1).putA e3 hd)) fun e a2 w2 hp => hp.chain (hx.take n0)
      | panic v =>
        cases e <;> simp only [OutR] at e3
        exact ⟨ι', ψ', .panic v, env, S', hx.take n0, e2, hE1.mono e1, e3, e4⟩
theorem x_panic {all : Array Oper} {o : Oper} {l : List Oper} {x : Operand} {t : TypeId} {v : AV} (hg : guardA all env o = some true) (ho : o.op = .panic x) (hx : evalA w0 env x = .ifc t v)
    (h : RunX P w0 n0 N r k Q (.panic (.ifc t v)) env S) : RunX P w0 n0 N r (.it (.ops all (o :: l)) :: k) Q .normal env S := by
  intro ι ψ w a hR hE
  have hw := guardA_sound hE hg
  refine wpListIn_do hw (fun c hc => by rw [hc] at ho; cases ho) ?_
  have hv := hE.eval hR x
  rw [hx] at hv
  have hv0 := hv
  generalize hc : a.eval x = c at hv
  cases hv with
  | ifc _ _ c' hc' =>
    have hres : (execOp a.eval o).run P w = .halt (.panic (.iface t c')) w := by
      simp [execOp, ho, hc, Instr.panic]
    rw [hres]
    exact ⟨ι, ψ, .panic (.ifc t v), env, S, (Ext.refl ι ψ).take n0, hR, hE, ⟨_, rfl, by rw [hc] at hv0; exact hv0⟩, h⟩
theorem x_forget {i : KI} (n : Nat) (env' : Env) (hn : n0 ≤ n) (hds : env' DS = env DS) (he : ∀ t, env' t = .junk ∨ (env' t = env t ∧ (env t).lt n = true))
    (hS : ∀ (j : Nat) (B : Blk), j < n → S[j]? = some B → match B with
      | .cells cs _ => ltL n cs = true
      | .arr _ _ _ _ els => ltL n els = true
      | .obj _ => True
      | .loop _ _ _ tm _ _ _ => tm.all (fun p => p.2.lt n) = true
      | .mp _ es => ltP n es = true
      | .mit cur es => ltP n es = true ∧ ∀ e, cur = some e → e.1.lt n = true ∧ e.2.lt n = true
      | .dead => True)
    (h : RunX P w0 n0 N r (.it i :: k) Q .normal env' (S.take n)) : RunX P w0 n0 N r (.it i :: k) Q .normal env S := by
  intro ι ψ w a hR hE
  obtain ⟨ψ', hle, _, hR'⟩ := hR.leave n hS
  have hE' : EnvR (ι.take n) ψ' N env' a := by
    have tk : ∀ t, (env t).lt n = true → ∀ c, VR ι ψ (env t) c → VR (ι.take n) ψ' (env t) c := fun t ht c hc => (hc.mono ⟨(Ext.refl ι ψ).pl, hle⟩).take ht
    refine ⟨hE.size, hE.bound, ?_, fun t => ?_⟩
    · obtain ⟨l, vs, h1, h2, h3, h4⟩ := hE.defers
      have hlt : ltL n l = true := by
        rcases he DS with h5 | ⟨_, h5⟩
        · rw [hds, h1] at h5; cases h5
        · rw [h1] at h5; exact h5
      exact ⟨l, vs, hds.trans h1, h2, fun j x v hx hv => ((h3 j x v hx hv).mono ⟨(Ext.refl ι ψ).pl, hle⟩).take (ltL_iff.1 hlt x (List.mem_of_getElem? hx)), h4⟩
    rcases he t with h1 | ⟨h1, h2⟩
    · rw [h1]; exact .junk _
    · rw [h1]
      exact ((hE.tmp t).mono ⟨(Ext.refl ι ψ).pl, hle⟩).take h2
  refine KI.mono (h _ _ w a hR' hE') fun e a2 w2 hp => ?_
  obtain ⟨ι2, ψ2, x, env2, S2, h1, h2, h3, h4, h5⟩ := hp
  refine ⟨ι2, ψ2, x, env2, S2, ⟨fun j p hj => ?_, Psi.le_trans hle h1.psi⟩, h2, h3, h4, h5⟩
  refine h1.pl j p ?_
  rw [List.take_take, Nat.min_eq_left hn]; exact hj
theorem x_thaw {i : KI} {t : Nat} (e : TypeId) (sz : Nat) (ht : env t = .snil) (hpos : 0 < sz)
    (h : RunX P w0 n0 N r (.it i :: k) Q .normal (upd env t (.sown S.length 0 0)) (S ++ [.arr e sz 0 0 []])) : RunX P w0 n0 N r (.it i :: k) Q .normal env S := by
  intro ι ψ w a hR hE
  have hth := hR.thaw e sz hpos
  have hx := Ext.push ι ψ ⟨0, 0, .slice none 0 0, sz⟩
  have hE' : EnvR (ι ++ [⟨0, 0, .slice none 0 0, sz⟩]) ψ N (upd env t (.sown S.length 0 0)) a := by
    have htd : t ≠ DS := fun e => by
      obtain ⟨l, vs, h1, _⟩ := hE.defers
      rw [e, h1] at ht; cases ht
    refine ⟨hE.size, hE.bound, ?_, fun s => ?_⟩
    · obtain ⟨l, vs, h1, h2, h3, h4⟩ := hE.defers
      exact ⟨l, vs, by rw [upd, if_neg (Ne.symm htd)]; exact h1, h2, fun j x v hx' hv => (h3 j x v hx' hv).mono hx, h4⟩
    simp only [upd]
    split
    · next hs =>
      subst hs
      have hv := hE.tmp s
      rw [ht] at hv
      generalize hc : a.tmps.getD s undef = c at hv
      cases hv
      exact .sown _ _ _ _ _ ⟨0, 0, .slice none 0 0, sz⟩ (by rw [← hR.len]; simp) (Nat.le_refl _) (fun _ => rfl)
    · exact (hE.tmp s).mono hx
  exact KI.mono (h _ _ w a hth hE') fun e a2 w2 hp => hp.chain (hx.take n0)
def resV (P : Program) (env : Env) (S : List Blk) : ResultVar → Option AV
  | .tmp t => some (env t)
  | .cell a t => loadA P S t (env a)
def resVs (P : Program) (env : Env) (S : List Blk) : List ResultVar → Option (List AV)
  | [] => some []
  | r :: rs => match resV P env S r, resVs P env S rs with
    | some v, some vs => some (v :: vs)
    | _, _ => none
def oneOrTup : List AV → AV
  | [v] => v
  | vs => .tup vs
end
end Go.Fen
namespace Go.Fen
open Go.RowKit
def Blk.ltB (n : Nat) : Blk → Bool
  | .cells cs _ => ltL n cs
  | .arr _ _ _ _ els => ltL n els
  | .obj _ => true
  | .loop _ _ _ tm _ _ _ => tm.all (fun p => p.2.lt n)
  | .mp _ es => ltP n es
  | .mit cur es => ltP n es && (match cur with
    | some e => e.1.lt n && e.2.lt n
    | none => true)
  | .dead => true
theorem mit_lt {n : Nat} {cur : Option (AV × AV)} {es : List (AV × AV)} (h : (Blk.mit cur es).ltB n = true) : ltP n es = true ∧ ∀ e, cur = some e → e.1.lt n = true ∧ e.2.lt n = true := by
  simp only [Blk.ltB, Bool.and_eq_true] at h
  refine ⟨h.1, ?_⟩
  rintro e rfl
  simpa using h.2
def okOuter (n : Nat) (S0 S : List Blk) : Prop := ∀ (j : Nat) (B : Blk), j < n → S[j]? = some B → S0[j]? = some B ∨ B.ltB n = true
theorem okOuter_append (S0 L : List Blk) : okOuter S0.length S0 (S0 ++ L) := by
  intro j B hj hB
  rw [List.getElem?_append_left hj] at hB
  exact .inl hB
theorem okOuter_refl (S0 : List Blk) : okOuter S0.length S0 S0 := fun _ _ _ h => .inl h
def leaveM : List AV → List Blk → Option (List Blk)
  | [], S => some S
  | .own m _ :: ms, S => match S[m]? with
    | some (.obj (.deferred (some []))) => leaveM ms (S.set m (.obj (.deferred none)))
    | _ => none
  | _, _ => none
def FPost (P : Program) (F : Func) (S0 : List Blk) (R : AOut → List Blk → Prop) : APost
  | .normal, env, S | .ret, env, S => ∃ ms S1 vs, env DS = .dfr ms ∧ leaveM ms S = some S1 ∧ resVs P env S1 F.results.toList = some vs ∧ okOuter S0.length S0 S1 ∧
      (conv S1 (fun a => decide (S0.length ≤ a)) 4 (oneOrTup vs)).lt S0.length = true ∧ R (.ret (conv S1 (fun a => decide (S0.length ≤ a)) 4 (oneOrTup vs))) (S1.take S0.length)
  | .panic v, env, S => ∃ ms S1, env DS = .dfr ms ∧ leaveM ms S = some S1 ∧ okOuter S0.length S0 S1 ∧ (conv S1 (fun a => decide (S0.length ≤ a)) 4 v).lt S0.length = true ∧ R (.panic (conv S1 (fun a => decide (S0.length ≤ a)) 4 v)) (S1.take S0.length)
  | _, _, _ => False
def env0 (args : List AV) : Env := fun t => if t = DS then .dfr [] else (args[t]?).getD .junk
section
variable {P : Program} {w0 w : World} {ι : List Pl} {ψ : Psi} {S : List Blk}
theorem ltP_of_ent {es l : List (AV × AV)} {me : List MapEntry} (hp : l.Perm es) (h : EntR ι ψ l me) : ltP ι.length es = true := by
  refine ltP_iff.2 fun x hx => ?_
  obtain ⟨i, hi⟩ := List.getElem?_of_mem (hp.mem_iff.2 hx)
  have hlt : i < me.length := by rw [← h.1]; exact (List.getElem?_eq_some_iff.1 hi).1
  have := h.2 i x me[i] hi (by simp [hlt])
  exact ⟨this.1.lt_len, this.2.lt_len⟩
theorem Rel.ltB (h : Rel w0 ι ψ S w) {j : Nat} {B : Blk} (hB : S[j]? = some B) : B.ltB S.length = true := by
  obtain ⟨pl, hpl, hR⟩ := h.get hB
  rw [← h.len]
  cases B with
  | cells cs ty =>
    obtain ⟨_, ⟨c, T, _, _, hv⟩, _⟩ := hR
    refine ltL_iff.2 fun x hx => ?_
    obtain ⟨i, hi⟩ := List.getElem?_of_mem hx
    obtain ⟨_, v, _, hr⟩ := hv i x hi
    exact hr.lt_len
  | arr e sz fz g els =>
    obtain ⟨_, hsz, _, _, ⟨xs, _, hxs⟩, _⟩ := hR
    refine ltL_iff.2 fun x hx => ?_
    obtain ⟨i, hi⟩ := List.getElem?_of_mem hx
    have cell : ∀ (j : Nat) (y : AV), x.cells[j]? = some y → y.lt ι.length = true := fun j y hy => by
      obtain ⟨_, v, _, hr, _⟩ := hxs _ y (flat_get hsz hi hy)
      exact hr.lt_len
    cases x with
    | agg cs => exact ltL_iff.2 fun y hy => by obtain ⟨j, hj⟩ := List.getElem?_of_mem hy; exact cell j y hj
    | _ => exact cell 0 _ rfl
  | obj o => rfl
  | loop st pend N tm ps asg body =>
    obtain ⟨_, ⟨fn, vs, d, _, h2, h3⟩, _⟩ := hR
    exact List.all_eq_true.2 fun p hp => (h3 p hp).lt_len
  | mp fz es =>
    obtain ⟨_, hn, ⟨me, c, l, h1, h2, h3, h4, h5⟩, _⟩ := hR
    exact ltP_of_ent h3 h4
  | mit cur rest =>
    obtain ⟨_, h1, _⟩ := hR
    rcases h1 with ⟨_, rfl, rfl⟩ | ⟨mb, ck, me, seen, l, k1, k2, k4, k5, k6⟩
    · rfl
    · simp only [Blk.ltB, Bool.and_eq_true]
      refine ⟨ltP_of_ent k4 k5, ?_⟩
      cases cur with
      | none => rfl
      | some e =>
        obtain ⟨b, m, q1, q2, q3, q4⟩ := k6 e rfl
        simp only [Bool.and_eq_true]
        exact ⟨q3.lt_len, q4.lt_len⟩
  | dead => rfl
theorem resVs_sound (h : Rel w0 ι ψ S w) {N : Nat} {env : Env} {a : Act} (hE : EnvR ι ψ N env a) : ∀ (rs : List ResultVar) (vs : List AV), resVs P env S rs = some vs →
    ∃ cs : List Value, (rs.mapM (m := Sem) fun r => match r with
      | .tmp t => pure (a.tmps.getD t undef)
      | .cell ad t => do loadVar t (← asAddr (a.tmps.getD ad undef))).run P w = .ok cs w ∧ vs.length = cs.length ∧ ∀ (j : Nat) (x : AV) (c : Value), vs[j]? = some x → cs[j]? = some c → VR ι ψ x c := by
  intro rs
  induction rs with
  | nil => intro vs hv; simp [resVs] at hv; subst hv; exact ⟨[], by simp, rfl, by simp⟩
  | cons r rs ih =>
    intro vs hv
    simp only [resVs] at hv
    split at hv
    · next v vs' hr hrs =>
      simp at hv; subst hv
      obtain ⟨cs, h1, h2, h3⟩ := ih vs' hrs
      have key : ∃ c, (match r with
          | .tmp t => (pure (a.tmps.getD t undef) : Sem Value)
          | .cell ad t => do loadVar t (← asAddr (a.tmps.getD ad undef))).run P w = .ok c w ∧ VR ι ψ v c := by
        cases r with
        | tmp t => simp [resV] at hr; subst hr; exact ⟨_, rfl, hE.tmp t⟩
        | cell ad t =>
          simp only [resV] at hr
          obtain ⟨c, k1, k2⟩ := loadA_sound (P := P) h (hE.tmp ad) hr
          refine ⟨c, ?_, k2⟩
          show (do loadVar t (← asAddr (a.tmps.getD ad undef)) : Sem Value).run P w = .ok c w
          generalize a.tmps.getD ad undef = p at k1 ⊢
          cases p with
          | pointer p => cases p with
            | some p => simpa [Instr.loadAt, Instr.sureAddr, asAddr] using k1
            | none => simp [Instr.loadAt, Instr.sureAddr] at k1
          | _ => simp [Instr.loadAt, Instr.sureAddr] at k1
      obtain ⟨c, k1, k2⟩ := key
      refine ⟨c :: cs, ?_, by simp [h2], fun j x c' hx hc => ?_⟩
      · simp only [List.mapM_cons, Sem.run_bind, k1, Result.andThen_ok, h1, Sem.run_pure]
      · cases j with
        | zero => simp at hx hc; subst hx hc; exact k2
        | succ j => exact h3 j x c' (by simpa using hx) (by simpa using hc)
    · cases hv
def OuterOk (S : List Blk) : Prop := ∀ (j : Nat) (B : Blk), S[j]? = some B → B.ltB S.length = true
theorem Rel.putObj (h : Rel w0 ι ψ S w) {m : Nat} {o o' : Obj} {pl : Pl} (hi : S[m]? = some (.obj o)) (hpl : ι[m]? = some pl) (ho' : o'.isCells = false) : Rel w0 ι ψ (S.set m (.obj o')) (w.putObj pl.blk o') := by
  obtain ⟨h0, h1, h2, h3, h4⟩ := h.blk m _ pl hi hpl
  have hset : ι.set m pl = ι := set_self hpl
  have hoth : ∀ k, k ≠ pl.blk → (w.putObj pl.blk o').heap[k]? = w.heap[k]? := fun k hk => World.putObj_heap_other hk
  have key := h.update (w' := w.putObj pl.blk o') (ψ' := ψ) (B' := .obj o') (pl' := pl) hi hpl ⟨rfl, rfl, rfl, by simp, fun k hk => hoth k (by omega)⟩ (fun k hk _ => hoth k (fun e => hk (by simp [Blk.at, e]))) (by rw [hset]; exact Ext.refl _ _) (by
    rw [hset]
    exact ⟨h0, World.putObj_heap_same (lt_of_heap h1), (fun e => by rw [ho'] at e; cases e), h3, h4⟩) (fun k hk => .inl (by simpa [Blk.at] using hk)) (fun b o v e => .inl ⟨e, fun hk => by
      simp [Blk.at] at hk; subst hk; rw [h3 o] at e; cases e⟩) rfl
  rw [hset] at key; exact key
theorem leave_sound {F : Fence} {n : Nat} {fn : Func} {tmps : Array Value} {R : Ending → World → Prop} {u : FrameMode} (hu : u ≠ .run) : ∀ (ms : List AV) (vs : List Value) (S S1 : List Blk) (w : World), leaveM ms S = some S1 → ms.length = vs.length →
    (∀ (j : Nat) (x : AV) (v : Value), ms[j]? = some x → vs[j]? = some v → VR ι ψ x v) → Rel w0 ι ψ S w → (∀ w1, Rel w0 ι ψ S1 w1 → LeavesInM F n P fn tmps R [] u w1) → LeavesInM F n P fn tmps R (vs.map toDef) u w := by
  intro ms
  induction ms with
  | nil =>
    intro vs S S1 w h hl _ hR hk
    simp only [leaveM, Option.some.injEq] at h; subst h
    obtain rfl : vs = [] := List.length_eq_zero_iff.1 hl.symm
    exact hk w hR
  | cons x ms ih =>
    intro vs S S1 w h hl hv hR hk
    cases vs with
    | nil => simp at hl
    | cons v vs =>
      cases x with
      | own m off =>
        simp only [leaveM] at h
        split at h
        · next hS =>
          have hx := hv 0 _ _ rfl rfl
          cases hx with
          | own _ _ pl hpl =>
            obtain ⟨h0, h1, h2, h3, h4⟩ := hR.blk m _ pl hS hpl
            refine ⟨hu, .inl ⟨pl.blk, _, rfl, run_takeDeferred h1, ?_⟩⟩
            exact ih vs _ S1 _ h (by simpa using hl) (fun j x v hx hv' => hv (j + 1) x v hx hv') (hR.putObj hS hpl rfl) hk
        · cases h
      | _ => simp [leaveM] at h
theorem enter {f : FuncId} {F : Func} {c : Code} {args : List AV} {R : AOut → List Blk → Prop} (hf : P.funcs[f]? = some F) (hb : F.body = some c) (hname : (F.name == "runtime.NumGoroutine") = false) (hargs : args.length ≤ F.ntmps) (hbd : F.ntmps ≤ DS)
    (h0 : OuterOk S → RunX P w0 S.length F.ntmps none [.it (.code c)] (FPost P F S R) .normal (env0 args) S) : ACall P w0 f args S R := by
  refine ⟨fun a w => by simp only [callFunc, Sem.run_bind, run_program, Result.andThen_ok, hf, hname, hb]; rfl, fun ι ψ w cargs hR hl hv => ?_⟩
  have h := h0 fun j B hB => hR.ltB hB
  refine (callsIn_wide (n := 0)).1 ?_
  refine callsIn_of_wp_marks (F := Fence.wide) hf hb trivial ?_
  have hE : EnvR ι ψ F.ntmps (env0 args) { tmps := cargs ++ Array.replicate (F.ntmps - cargs.size) undef, defers := [] } := by
    refine ⟨by simp; omega, hbd, ⟨[], [], by simp [env0], rfl, by simp, rfl⟩, fun t => ?_⟩
    simp only [env0]
    split
    · next ht =>
      have : (cargs ++ Array.replicate (F.ntmps - cargs.size) undef).getD t undef = undef := by
        rw [Array.getD_eq_getD_getElem?, Array.getElem?_eq_none (by simp; omega)]; rfl
      rw [this]
      exact .dfr [] [] rfl (by simp)
    · by_cases ht : t < args.length
      · have e1 : args[t]? = some args[t] := List.getElem?_eq_getElem ht
        have ht' : t < cargs.size := by omega
        have e2 : cargs[t]? = some cargs[t] := Array.getElem?_eq_getElem ht'
        rw [e1, Array.getD_eq_getD_getElem?, Array.getElem?_append_left ht', e2]
        exact hv t _ _ e1 e2
      · rw [List.getElem?_eq_none (by omega)]
        exact .junk _
  refine wpIn_mono (h ι ψ w _ hR hE) fun e a' w' hp => ?_
  obtain ⟨ι', ψ', x, env, S', h1, h2, h3, h4, h5⟩ := hp
  have hext : Ext ι ψ ι' ψ' := by rw [← hR.len, List.take_length] at h1; exact h1
  obtain ⟨ds, dvs, d1, d2, d3, d4⟩ := h3.defers
  have leave : ∀ S1 w1 v c, Rel w0 ι' ψ' S1 w1 → okOuter S.length S S1 → VR ι' ψ' v c → (conv S1 (fun a => decide (S.length ≤ a)) 4 v).lt S.length = true →
      ∃ ι'' ψ'', Ext ι ψ ι'' ψ'' ∧ Rel w0 ι'' ψ'' (S1.take S.length) w1 ∧ VR ι'' ψ'' (conv S1 (fun a => decide (S.length ≤ a)) 4 v) c := by
    intro S1 w1 v c h2 ho hv hlt
    obtain ⟨ψ'', k1, k2, k3⟩ := h2.leave S.length (fun j B hj hB => by
      have : B.ltB S.length = true := (ho j B hj hB).elim (fun e => hR.ltB e) id
      cases B <;> first | exact this | (exact mit_lt this) | trivial)
    refine ⟨ι'.take S.length, ψ'', ⟨fun i p hp => ?_, Psi.le_trans hext.psi k1⟩, k3, (conv_sound h2 k1 k2 4 v c hv).take hlt⟩
    obtain ⟨p', e1, e2⟩ := hext.pl i p hp
    have : i < S.length := by rw [← hR.len]; exact (List.getElem?_eq_some_iff.1 hp).1
    exact ⟨p', by rw [List.getElem?_take, if_pos this]; exact e1, e2⟩
  have ret : ∀ (h5 : ∃ ms S1 vs, env DS = .dfr ms ∧ leaveM ms S' = some S1 ∧ resVs P env S1 F.results.toList = some vs ∧ okOuter S.length S S1 ∧
      (conv S1 (fun a => decide (S.length ≤ a)) 4 (oneOrTup vs)).lt S.length = true ∧ R (.ret (conv S1 (fun a => decide (S.length ≤ a)) 4 (oneOrTup vs))) (S1.take S.length)),
      LeavesInM Fence.wide 0 P F a'.tmps (fun e w' => ∃ ι' ψ' out S', Ext ι ψ ι' ψ' ∧ Rel w0 ι' ψ' S' w' ∧ OutR ι' ψ' out e ∧ R out S') a'.defers .returning w' := by
    rintro ⟨ms, S1, vs, q1, q2, r1, r2, r3, r4⟩
    rw [q1] at d1; cases d1
    rw [d4]
    refine leave_sound (by simp) ds dvs S' S1 w' q2 d2 d3 h2 fun w1 hR1 => ?_
    obtain ⟨cs, q1, q2, q3⟩ := resVs_sound (P := P) hR1 h3 _ vs r1
    have hrun : (results F a'.tmps).run P w1 = .ok (if h : cs.toArray.size = 1 then cs.toArray[0] else .tuple cs.toArray) w1 := by
      unfold results
      rw [Array.mapM_eq_mapM_toList]
      simp only [Sem.run_bind, Sem.run_map]
      erw [q1]
      rfl
    have hv : VR ι' ψ' (oneOrTup vs) (if h : cs.toArray.size = 1 then cs.toArray[0] else .tuple cs.toArray) := by
      match vs, cs, q2, q3 with
      | [], [], _, _ => exact .tup _ _ rfl (by simp)
      | [v], [c], _, q3 => simpa [oneOrTup] using q3 0 v c rfl rfl
      | v1 :: v2 :: vs, c1 :: c2 :: cs, q2, q3 =>
        simp only [oneOrTup, List.size_toArray, List.length_cons]
        rw [dif_neg (by omega)]
        exact .tup _ _ (by simpa using q2) (fun j x c hx hc => q3 j x c hx (by simpa using hc))
      | [], _ :: _, q2, _ => simp at q2
      | [_], [], q2, _ => simp at q2
      | [_], _ :: _ :: _, q2, _ => simp at q2
      | _ :: _ :: _, [], q2, _ => simp at q2
      | _ :: _ :: _, [_], q2, _ => simp at q2
    obtain ⟨ι'', ψ'', e1, e2, e3⟩ := leave S1 w1 _ _ hR1 r2 hv r3
    exact ⟨_, hrun, ι'', ψ'', .ret _, _, e1, e2, e3, r4⟩
  cases x with
  | normal => cases e <;> simp only [XR] at h4; exact ret h5
  | ret => cases e <;> simp only [XR] at h4; exact ret h5
  | exit id => exact h5.elim
  | goto l => exact h5.elim
  | panic v =>
    cases e <;> simp only [XR] at h4
    obtain ⟨c, rfl, hv⟩ := h4
    obtain ⟨ms, S1, q1, q2, r2, r3, r4⟩ := h5
    rw [q1] at d1; cases d1
    show LeavesInM _ _ _ _ _ _ a'.defers _ _
    rw [d4]
    refine leave_sound (by simp) ds dvs S' S1 w' q2 d2 d3 h2 fun w1 hR1 => ?_
    obtain ⟨ι'', ψ'', e1, e2, e3⟩ := leave S1 w1 _ _ hR1 r2 hv r3
    exact ⟨ι'', ψ'', .panic _, _, e1, e2, ⟨c, rfl, e3⟩, r4⟩
end
mutual
theorem AV.lt_mono {n m : Nat} (h : n ≤ m) : ∀ x : AV, x.lt n = true → x.lt m = true
  | .own .., hx => by simp only [AV.lt, decide_eq_true_eq] at hx ⊢; omega
  | .oel .., hx => by simp only [AV.lt, decide_eq_true_eq] at hx ⊢; omega
  | .sown .., hx => by simp only [AV.lt, decide_eq_true_eq] at hx ⊢; omega
  | .mown .., hx => by simp only [AV.lt, decide_eq_true_eq] at hx ⊢; omega
  | .yld _, hx => by simp only [AV.lt, decide_eq_true_eq] at hx ⊢; omega
  | .pro cs, hx => ltL_mono h cs hx
  | .sval _ els, hx => ltL_mono h els hx
  | .mval es, hx => ltP_mono h es hx
  | .fn _ a c, hx => by
    simp only [AV.lt, Bool.and_eq_true] at hx ⊢
    exact ⟨ltL_mono h a hx.1, ltL_mono h c hx.2⟩
  | .ifc _ v, hx => AV.lt_mono h v hx
  | .agg cs, hx => ltL_mono h cs hx
  | .tup cs, hx => ltL_mono h cs hx
  | .dfr cs, hx => ltL_mono h cs hx
  | .int .., _ => rfl
  | .bool _, _ => rfl
  | .str _, _ => rfl
  | .nilp, _ => rfl
  | .mnil, _ => rfl
  | .snil, _ => rfl
  | .fnil, _ => rfl
  | .inil, _ => rfl
  | .val _, _ => rfl
  | .junk, _ => rfl
theorem ltL_mono {n m : Nat} (h : n ≤ m) : ∀ l : List AV, ltL n l = true → ltL m l = true
  | [], _ => rfl
  | x :: r, hx => by
    simp only [ltL, Bool.and_eq_true] at hx ⊢
    exact ⟨AV.lt_mono h x hx.1, ltL_mono h r hx.2⟩
theorem ltP_mono {n m : Nat} (h : n ≤ m) : ∀ l : List (AV × AV), ltP n l = true → ltP m l = true
  | [], _ => rfl
  | (a, b) :: r, hx => by
    simp only [ltP, Bool.and_eq_true] at hx ⊢
    exact ⟨⟨AV.lt_mono h a hx.1.1, AV.lt_mono h b hx.1.2⟩, ltP_mono h r hx.2⟩
end
theorem Blk.ltB_mono {n m : Nat} (h : n ≤ m) {B : Blk} (hB : B.ltB n = true) : B.ltB m = true := by
  cases B with
  | cells cs ty => exact ltL_mono h cs hB
  | arr e sz fz g els => exact ltL_mono h els hB
  | obj o => rfl
  | loop st pend N tm ps asg body => exact List.all_eq_true.2 fun p hp => AV.lt_mono h p.2 (List.all_eq_true.1 hB p hp)
  | mp fz es => exact ltP_mono h es hB
  | mit cur es =>
    simp only [Blk.ltB, Bool.and_eq_true] at hB ⊢
    refine ⟨ltP_mono h es hB.1, ?_⟩
    cases cur with
    | none => rfl
    | some e =>
      have := hB.2
      simp only [Bool.and_eq_true] at this ⊢
      exact ⟨AV.lt_mono h e.1 this.1, AV.lt_mono h e.2 this.2⟩
  | dead => rfl
section
variable {P : Program} {w0 : World} {n0 N : Nat} {r : Option Nat} {Q : APost} {k : List TI} {env : Env} {S : List Blk}
theorem x_ind {c : Code} {α : Type} (I : α → Env → List Blk → Prop) (μ : α → Nat) (a0 : α) (h0 : I a0 env S)
    (step : ∀ (a : α) (env : Env) (S : List Blk), I a env S → (∀ (a' : α) (env' : Env) (S' : List Blk), μ a' < μ a → I a' env' S' → RunX P w0 n0 N r (.it (.lp c) :: k) Q .normal env' S') →
      RunX P w0 n0 N r (.it (.code c) :: .it (.lp c) :: k) Q .normal env S) : RunX P w0 n0 N r (.it (.code (.loop c)) :: k) Q .normal env S := by
  have key : ∀ (m : Nat) (a : α) (env : Env) (S : List Blk), μ a = m → I a env S → RunX P w0 n0 N r (.it (.code c) :: .it (.lp c) :: k) Q .normal env S := by
    intro m
    induction m using Nat.strongRecOn with
    | _ m ih =>
      intro a env S hm hI
      exact step a env S hI fun a' env' S' hlt hI' => x_lp (ih (μ a') (hm ▸ hlt) a' env' S' rfl hI')
  exact x_loop (key _ a0 env S rfl h0)
def keepEnv (L : List Nat) (env : Env) : Env := fun t => if t = DS then env t else if L.contains t then env t else .junk
theorem x_keep {i : KI} {S0 L : List Blk} (hO : OuterOk S0) (m : Nat) (sl : List Nat) (hn : n0 = S0.length) (hds : (env DS).lt (S0.length + m) = true) (hsl : sl.all (fun t => (env t).lt (S0.length + m)) = true) (hL : (L.take m).all (fun B => B.ltB (S0.length + m)) = true)
    (h : RunX P w0 n0 N r (.it i :: k) Q .normal (keepEnv sl env) (S0 ++ L.take m)) : RunX P w0 n0 N r (.it i :: k) Q .normal env (S0 ++ L) := by
  refine x_forget (S0.length + m) (keepEnv sl env) (by omega) (by simp [keepEnv]) (fun t => ?_) (fun j B hj hB => ?_) ?_
  · unfold keepEnv
    split
    · next ht => subst ht; exact .inr ⟨rfl, hds⟩
    split
    · next ht => exact .inr ⟨rfl, List.all_eq_true.1 hsl t (by simpa using ht)⟩
    · exact .inl rfl
  · have : B.ltB (S0.length + m) = true := by
      by_cases hj0 : j < S0.length
      · rw [List.getElem?_append_left hj0] at hB
        exact Blk.ltB_mono (by omega) (hO j B hB)
      · rw [List.getElem?_append_right (by omega)] at hB
        refine List.all_eq_true.1 hL B (List.mem_of_getElem? (i := j - S0.length) ?_)
        rw [List.getElem?_take, if_pos (by omega)]; exact hB
    cases B <;> first | exact this | (exact mit_lt this) | trivial
  · rw [List.take_append, List.take_of_length_le (by omega), Nat.add_sub_cancel_left]
    exact h
end
end Go.Fen
namespace Go.Fen
theorem get_new (S L : List Blk) (i : Nat) : (S ++ L)[S.length + i]? = L[i]? := by
  rw [List.getElem?_append_right (by omega)]; congr 1; omega
theorem get_new0 (S L : List Blk) : (S ++ L)[S.length]? = L[0]? := get_new S L 0
theorem set_new (S L : List Blk) (i : Nat) (B : Blk) : (S ++ L).set (S.length + i) B = S ++ L.set i B := by
  rw [List.set_append_right _ _ (by omega)]; congr 2; omega
theorem set_new0 (S L : List Blk) (B : Blk) : (S ++ L).set S.length B = S ++ L.set 0 B := set_new S L 0 B
theorem app_assoc (S L M : List Blk) : S ++ L ++ M = S ++ (L ++ M) := List.append_assoc S L M
theorem len_app (S L : List Blk) : (S ++ L).length = S.length + L.length := List.length_append
theorem take_app (S L : List Blk) : (S ++ L).take S.length = S := List.take_left
theorem take_self (S : List Blk) : S.take S.length = S := List.take_length
theorem le_new (n i : Nat) : decide (n ≤ n + i) = true := by simp
theorem le_new0 (n : Nat) : decide (n ≤ n) = true := by simp
theorem lt_new (n i : Nat) : decide (n + i < n) = false := by simp
theorem lt_new' (n i j : Nat) : decide (n + i < n + j) = decide (i < j) := by simp
theorem lt_new0 (n j : Nat) : decide (n < n + j) = decide (0 < j) := by simp
theorem lt_new1 (n : Nat) : decide (n < n + 1) = true := by simp
theorem keepEnv_in (L : List Nat) (env : Env) (t : Nat) (h : L.contains t = true) : keepEnv L env t = env t := by unfold keepEnv; simp only [h, if_true, ite_self]
theorem keepEnv_ds (L : List Nat) (env : Env) : keepEnv L env 1000000 = env 1000000 := by unfold keepEnv; rw [if_pos rfl]
theorem nat_nonneg (n : Nat) : (0 ≤ (n : Int)) = True := by simp
theorem toNat_nat (n : Nat) : (n : Int).toNat = n := Int.toNat_natCast n
theorem nat_lt (n m : Nat) : ((n : Int) < (m : Int)) = (n < m) := by simp
theorem nat_le (n m : Nat) : ((n : Int) ≤ (m : Int)) = (n ≤ m) := by simp
theorem upd_same (env : Env) (t : Nat) (v : AV) : upd env t v t = v := by simp [upd]
theorem upd_other (env : Env) (t s : Nat) (v : AV) (h : (s == t) = false) : upd env t v s = env s := by
  simp at h; simp [upd, h]
section
variable {P : Program} {w0 : World} {n0 N : Nat} {r : Option Nat} {Q : APost} {k : List TI} {env : Env} {S : List Blk}
theorem p_exit_it {i : KI} {id : Nat} (h : RunX P w0 n0 N r k Q (.exit id) env S) : RunX P w0 n0 N r (.it i :: k) Q (.exit id) env S := h
theorem p_ret_it {i : KI} (h : RunX P w0 n0 N r k Q .ret env S) : RunX P w0 n0 N r (.it i :: k) Q .ret env S := h
theorem p_panic_it {i : KI} {v : AV} (h : RunX P w0 n0 N r k Q (.panic v) env S) : RunX P w0 n0 N r (.it i :: k) Q (.panic v) env S := h
theorem p_exit_hit {id : Nat} (h : RunX P w0 n0 N r k Q .normal env S) : RunX P w0 n0 N r (.blk id :: k) Q (.exit id) env S := by
  simp only [RunX, if_true]; exact h
theorem p_exit_miss {id j : Nat} (hne : (j == id) = false) (h : RunX P w0 n0 N r k Q (.exit j) env S) : RunX P w0 n0 N r (.blk id :: k) Q (.exit j) env S := by
  simp only [RunX]; rw [if_neg (by simpa using hne)]; exact h
theorem p_blk {id : Nat} (h : RunX P w0 n0 N r k Q .normal env S) : RunX P w0 n0 N r (.blk id :: k) Q .normal env S := h
theorem p_ret_blk {id : Nat} (h : RunX P w0 n0 N r k Q .ret env S) : RunX P w0 n0 N r (.blk id :: k) Q .ret env S := h
theorem p_panic_blk {id : Nat} {v : AV} (h : RunX P w0 n0 N r k Q (.panic v) env S) : RunX P w0 n0 N r (.blk id :: k) Q (.panic v) env S := h
theorem p_end {x : AX} (h : Q x env S) : RunX P w0 n0 N r [] Q x env S := h
theorem x_condT {c : Operand} {d e : Code} (hc : evalA w0 env c = .bool true) (h : RunX P w0 n0 N r (.it (.code d) :: k) Q .normal env S) : RunX P w0 n0 N r (.it (.code (.cond c d e)) :: k) Q .normal env S := x_cond hc h
theorem x_condF {c : Operand} {d e : Code} (hc : evalA w0 env c = .bool false) (h : RunX P w0 n0 N r (.it (.code e) :: k) Q .normal env S) : RunX P w0 n0 N r (.it (.code (.cond c d e)) :: k) Q .normal env S := x_cond hc h
theorem x_guardS {all : Array Oper} {o : Oper} {l : List Oper} {b : Bool} (_h0 : o.guard.isSome = true) (_hg : guardA all env o = some b) (h1 : b = true → RunX P w0 n0 N r (.it (.ops all (o :: l)) :: k) Q .normal env S) (h2 : b = false → RunX P w0 n0 N r (.it (.ops all (o :: l)) :: k) Q .normal env S) :
    RunX P w0 n0 N r (.it (.ops all (o :: l)) :: k) Q .normal env S := by
  cases b
  · exact h2 rfl
  · exact h1 rfl
theorem x_condS {c : Operand} {d e : Code} {t : Bool} (hc : evalA w0 env c = .bool t) (h1 : t = true → RunX P w0 n0 N r (.it (.code d) :: k) Q .normal env S) (h2 : t = false → RunX P w0 n0 N r (.it (.code e) :: k) Q .normal env S) :
    RunX P w0 n0 N r (.it (.code (.cond c d e)) :: k) Q .normal env S := by
  refine x_cond hc ?_
  cases t
  · exact h2 rfl
  · exact h1 rfl
theorem x_step0 {all : Array Oper} {o : Oper} {l : List Oper} {v : AV} {S' : List Blk} (hg : o.guard = none) (hs : stepF P S (evalA w0 env) o.op = some (v, S')) (hd : dstOk N o.dst = true)
    (h : RunX P w0 n0 N r (.it (.ops all l) :: k) Q .normal (putA env o.dst v) S') : RunX P w0 n0 N r (.it (.ops all (o :: l)) :: k) Q .normal env S :=
  x_step (by simp [guardA, hg]) hs hd h
def cvL (S : List Blk) (l : List AV) : List AV := l.map (conv S (frA S) 4)
theorem cvL_nil (S : List Blk) : cvL S [] = [] := rfl
theorem cvL_cons (S : List Blk) (x : AV) (l : List AV) : cvL S (x :: l) = conv S (frA S) 4 x :: cvL S l := rfl
theorem cvL_append (S : List Blk) (a b : List AV) : cvL S (a ++ b) = cvL S a ++ cvL S b := List.map_append
theorem x_callA {all : Array Oper} {o : Oper} {l : List Oper} {fop : Operand} {args : Array Operand} {tys : Array TypeId} {f : FuncId} {first cap A : List AV} {S1 : List Blk} (sh : List Nat)
    (hg : guardA all env o = some true) (ho : o.op = .call ⟨.value fop, args, tys⟩) (hf : evalA w0 env fop = .fn (.func f) first cap) (hd : dstOk N o.dst = true)
    (hS : sh.foldl markFull S = S1) (hA : cvL S1 (first ++ args.toList.map (evalA w0 env) ++ cap) = A)
    (h : ACall P w0 f A S1 (afterCall P w0 n0 N r all l k Q env o.dst)) :
    RunX P w0 n0 N r (.it (.ops all (o :: l)) :: k) Q .normal env S := by
  subst hS hA
  exact x_call sh hg ho hf hd h
theorem f_ret {F : Func} {S0 S1 S2 : List Blk} {R : AOut → List Blk → Prop} {ms vs : List AV} {v : AV} (h0 : env DS = .dfr ms) (h01 : leaveM ms S = some S2) (h1 : resVs P env S2 F.results.toList = some vs) (h2 : okOuter S0.length S0 S2)
    (h3 : conv S2 (fun a => decide (S0.length ≤ a)) 4 (oneOrTup vs) = v) (h4 : v.lt S0.length = true) (h5 : S2.take S0.length = S1) (h : R (.ret v) S1) : FPost P F S0 R .ret env S := by
  subst h3 h5
  exact ⟨ms, S2, vs, h0, h01, h1, h2, h4, h⟩
theorem f_end {F : Func} {S0 S1 S2 : List Blk} {R : AOut → List Blk → Prop} {ms vs : List AV} {v : AV} (h0 : env DS = .dfr ms) (h01 : leaveM ms S = some S2) (h1 : resVs P env S2 F.results.toList = some vs) (h2 : okOuter S0.length S0 S2)
    (h3 : conv S2 (fun a => decide (S0.length ≤ a)) 4 (oneOrTup vs) = v) (h4 : v.lt S0.length = true) (h5 : S2.take S0.length = S1) (h : R (.ret v) S1) : FPost P F S0 R .normal env S := f_ret h0 h01 h1 h2 h3 h4 h5 h
theorem f_panic {F : Func} {S0 S1 S2 : List Blk} {R : AOut → List Blk → Prop} {ms : List AV} {v v' : AV} (h0 : env DS = .dfr ms) (h01 : leaveM ms S = some S2) (h2 : okOuter S0.length S0 S2)
    (h3 : conv S2 (fun a => decide (S0.length ≤ a)) 4 v = v') (h4 : v'.lt S0.length = true) (h5 : S2.take S0.length = S1) (h : R (.panic v') S1) : FPost P F S0 R (.panic v) env S := by
  subst h3 h5
  exact ⟨ms, S2, h0, h01, h2, h4, h⟩
end
theorem beq_true' (b : Bool) : (b == true) = b := by cases b <;> rfl
theorem beq_false' (b : Bool) : (b == false) = !b := by cases b <;> rfl
theorem ltB_cells (n : Nat) (cs : List AV) (ty : Option TypeId) : (Blk.cells cs ty).ltB n = ltL n cs := rfl
theorem ltB_arr (n : Nat) (e : TypeId) (a b c : Nat) (els : List AV) : (Blk.arr e a b c els).ltB n = ltL n els := rfl
theorem ltB_obj (n : Nat) (o : Obj) : (Blk.obj o).ltB n = true := rfl
theorem ltB_loop (n : Nat) (st : LoopState) (pend : Option Code) (N : Nat) (tm : List (Nat × AV)) (ps : Array Tmp) (asg body : Code) : (Blk.loop st pend N tm ps asg body).ltB n = tm.all (fun p => p.2.lt n) := rfl
theorem ltB_mp (n : Nat) (fz : Bool) (es : List (AV × AV)) : (Blk.mp fz es).ltB n = ltP n es := rfl
theorem ltB_mitN (n : Nat) (es : List (AV × AV)) : (Blk.mit none es).ltB n = (ltP n es && true) := rfl
theorem ltB_mitS (n : Nat) (e : AV × AV) (es : List (AV × AV)) : (Blk.mit (some e) es).ltB n = (ltP n es && (e.1.lt n && e.2.lt n)) := rfl
theorem ltB_dead (n : Nat) : Blk.dead.ltB n = true := rfl
theorem okOuter_append' (S0 L : List Blk) : okOuter S0.length S0 (S0 ++ L) = True := eq_true (okOuter_append S0 L)
theorem okOuter_refl' (S0 : List Blk) : okOuter S0.length S0 S0 = True := eq_true (okOuter_refl S0)
attribute [go_sem] nat_nonneg toNat_nat List.getElem?_map List.length_map keepEnv_in keepEnv_ds List.contains_cons List.contains_nil Bool.or_true Bool.true_or Bool.or_false Bool.false_or ltB_cells ltB_arr ltB_obj ltB_loop ltB_mp ltB_mitN ltB_mitS ltB_dead beq_true' beq_false' okOuter_append' okOuter_refl'
theorem ltL_append (n : Nat) (a b : List AV) : ltL n (a ++ b) = (ltL n a && ltL n b) := by
  induction a with
  | nil => simp [ltL]
  | cons x a ih => simp [ltL, ih, Bool.and_assoc]
theorem plainL_append (a b : List AV) : plainL (a ++ b) = (plainL a && plainL b) := by
  induction a with
  | nil => simp [plainL]
  | cons x a ih => simp [plainL, ih, Bool.and_assoc]
attribute [go_sem] cvL_nil cvL_cons cvL_append ltL_append plainL_append List.all_append leaveM DS stepF pureF evalA lookupA assertA isIface findA keyA keyB keyFs keq keq0 keqL entsA makeMapA mapUpdateA upsertA rangeA lenM entryA unsafeStrA ptrEq Option.orElse_some Option.orElse_none List.find?_cons List.find?_nil List.any_cons List.any_nil putA guardA dstOk loadA ptee partA fieldA ptrAdd fieldV indexV indexP sliceA bndA binA intBinA strBinA shiftA eqA eqT eqFsA isConst unA convA isU8 bytesOf lenA builtinA fillA splice buildA placesA
  appendA srcA okEls buildSliceA makeSliceA storeA allLeaf AV.cells AV.leaf AV.isJunk ofV ofLeaf env0 resVs resV oneOrTup conv AV.plain plainL AV.lt ltL afterCall markFull frA
  get_new get_new0 set_new set_new0 app_assoc len_app take_app take_self le_new le_new0 lt_new lt_new' lt_new0 upd_same upd_other List.getElem?_toArray bne_iff_ne beq_self_eq_true bne_self_eq_false
  List.getElem?_cons_zero List.getElem?_cons_succ List.set_cons_zero List.set_cons_succ List.length_cons List.length_nil List.cons_append List.nil_append List.append_nil
  List.drop_zero List.drop_succ_cons List.take_zero List.take_succ_cons List.take_nil List.drop_nil List.head?_cons List.map_cons List.map_nil List.all_cons List.all_nil List.foldl_cons List.foldl_nil
  Option.map_some Option.map_none Option.getD_some Option.getD_none List.getElem?_nil
  Bool.and_true Bool.true_and Bool.false_and Bool.and_false Bool.not_true Bool.not_false Nat.add_zero Nat.zero_add Nat.zero_le and_self and_true true_and true_or or_true false_or or_false false_and and_false
  ite_true ite_false if_true if_false eq_self List.toList_toArray Nat.zero_lt_succ decide_true decide_false Bool.false_eq_true Option.isSome_some Option.isSome_none List.isEmpty_cons List.isEmpty_nil
end Go.Fen
namespace Go.Fen
open Go.RowKit
def fpV : AV → List Nat
  | .own a _ => [a]
  | .oel a _ _ _ => [a]
  | .sown a _ _ => [a]
  | .mown a => [a]
  | _ => []
def fpOp (ρ : Operand → AV) : Op → List Nat
  | .load _ a => fpV (ρ a)
  | .convert _ _ x => fpV (ρ x)
  | .indexAddr _ x _ => fpV (ρ x)
  | .lookup _ x _ _ => fpV (ρ x)
  | .entry x => fpV (ρ x)
  | .call c => c.args.toList.flatMap fun x => fpV (ρ x)
  | _ => []
theorem convA_keep {P : Program} {S S' : List Blk} {s d : TypeId} {x : AV} (h : ∀ a ∈ fpV x, S'[a]? = S[a]?) : convA P S' s d x = convA P S s d x := by
  unfold convA
  cases hs : P.underlying s with
  | none => rfl
  | some a =>
    cases hd : P.underlying d with
    | none => cases a <;> rfl
    | some b =>
      cases x with
      | sown u g n =>
        have e := h u (by simp [fpV])
        cases b <;> first | rfl | (cases a <;> first | rfl | (simp only [e]))
      | own u o =>
        have e := h u (by simp [fpV])
        cases o <;> cases a <;> first | rfl | (cases b <;> first | rfl | (simp only [e]))
      | _ => cases b <;> first | rfl | (cases a <;> rfl)
theorem indexP_keep {P : Program} {S S' : List Blk} {t : TypeId} {x i : AV} (h : ∀ a g n, x = .sown a g n → S'[a]? = S[a]?) : indexP P S' t x i = indexP P S t x i := by
  unfold indexP
  cases hs : P.underlying t with
  | none => rfl
  | some a =>
    cases x with
    | sown u g n =>
      have e := h u g n rfl
      cases a <;> first | rfl | (cases i <;> first | rfl | (simp only [e]))
    | _ => cases a <;> first | rfl | (cases i <;> rfl)
theorem lookupA_keep {P : Program} {S S' : List Blk} {t : TypeId} {x i : AV} {ok : Bool} (h : ∀ a, x = .mown a → S'[a]? = S[a]?) : lookupA P S' t x i ok = lookupA P S t x i ok := by
  have : entsA S' x = entsA S x := by
    cases x <;> simp only [entsA]
    rw [h _ rfl]
  unfold lookupA
  rw [this]
theorem pureF_keep {P : Program} {S S' : List Blk} {ρ : Operand → AV} {op : Op} (h : ∀ a ∈ fpOp ρ op, S'[a]? = S[a]?) : pureF P S' ρ op = pureF P S ρ op := by
  cases op with
  | load t a =>
    simp only [pureF, loadA]
    simp only [fpOp] at h
    cases hx : ρ a <;> simp only [hx, fpV, List.mem_singleton, forall_eq] at h <;> simp only [ptee]
    · rw [h]
    · rw [h]
  | convert s d x =>
    simp only [pureF]
    exact convA_keep fun a ha => h a (by simpa [fpOp] using ha)
  | indexAddr t x i =>
    simp only [pureF]
    exact indexP_keep fun a g n e => h a (by simp [fpOp, e, fpV])
  | lookup t x i ok =>
    simp only [pureF]
    exact lookupA_keep fun a e => h a (by simp [fpOp, e, fpV])
  | entry x =>
    simp only [pureF]
    simp only [fpOp] at h
    cases hx : ρ x <;> simp only [entryA]
    next a o =>
      cases o
      · have := h a (by simp [hx, fpV])
        simp only [this]
      · rfl
  | call c =>
    obtain ⟨callee, args, ts⟩ := c
    cases callee with
    | builtin b =>
      simp only [pureF, builtinA]
      split
      · next a g n hargs =>
        have hx : ∃ y ∈ args.toList, ρ y = .sown a g n := by
          have : (AV.sown a g n) ∈ args.toList.map ρ := by rw [hargs]; simp
          simpa using List.mem_map.1 this
        obtain ⟨y, hy, hya⟩ := hx
        have := h a (by simp only [fpOp, List.mem_flatMap]; exact ⟨y, hy, by rw [hya]; simp [fpV]⟩)
        simp only [this]
      · rfl
      · next x t hargs hts =>
        have hl : lenM S' P t x = lenM S P t x := by
          unfold lenM
          cases P.underlying t with
          | none => rfl
          | some d =>
            cases x with
            | mown a =>
              have hx : ∃ y ∈ args.toList, ρ y = .mown a := by
                have : (AV.mown a) ∈ args.toList.map ρ := by rw [hargs]; simp
                simpa using List.mem_map.1 this
              obtain ⟨y, hy, hya⟩ := hx
              have := h a (by simp only [fpOp, List.mem_flatMap]; exact ⟨y, hy, by rw [hya]; simp [fpV]⟩)
              cases d <;> first | rfl | simp only [this]
            | _ => cases d <;> rfl
        rw [hl]
      all_goals first | rfl | (simp_all)
    | _ => rfl
  | _ => rfl
def isReader : Op → Bool
  | .alloc _ | .box _ _ | .buildSlice _ _ _ | .store _ _ _ | .makeSlice _ _ _ | .makeMap _ _ | .mapUpdate _ _ _ _ | .insert _ _ _ _ | .range _ _ => false
  | .call c => match c.callee with
    | .builtin .len | .builtin .min | .builtin .max | .builtin .unsafeSliceData => true
    | _ => false
  | _ => true
theorem stepF_reader {P : Program} {S : List Blk} {ρ : Operand → AV} {op : Op} (h : isReader op = true) : stepF P S ρ op = (pureF P S ρ op).map (fun v => (v, S)) := by
  cases op <;> first | rfl | simp [isReader] at h | skip
  rename_i c
  obtain ⟨callee, args, ts⟩ := c
  cases callee with
  | builtin b => cases b <;> first | rfl | simp [isReader] at h
  | _ => simp [isReader] at h
theorem opt_congr {ρ ρ' : Operand → AV} {x : Option Operand} (h : ∀ y, x = some y → ρ' y = ρ y) : x.map ρ' = x.map ρ := by
  cases x with
  | none => rfl
  | some y => simp [h y rfl]
theorem list_congr {ρ ρ' : Operand → AV} {x : List Operand} (h : ∀ y ∈ x, ρ' y = ρ y) : x.map ρ' = x.map ρ := List.map_congr_left h
theorem parts_congr {ρ ρ' : Operand → AV} {x : List (Nat × Operand)} (h : ∀ y ∈ x.map (·.2), ρ' y = ρ y) : x.map (fun p => (p.1, ρ' p.2)) = x.map (fun p => (p.1, ρ p.2)) :=
  List.map_congr_left fun p hp => by rw [h _ (List.mem_map_of_mem hp)]
theorem isConst_congr (x : Operand) : isConst x = isConst x := rfl
theorem pureF_congr {P : Program} {S : List Blk} {ρ ρ' : Operand → AV} {op : Op} (h : ∀ x ∈ op.operands, ρ' x = ρ x) : pureF P S ρ' op = pureF P S ρ op := by
  cases op with
  | build t parts => simp only [pureF]; rw [parts_congr fun y hy => h y (by simpa [Op.operands] using hy)]
  | makeFunc fn first cap =>
    simp only [pureF]
    rw [list_congr (x := first.toList) fun y hy => h y (by simp [Op.operands]; exact .inl (by simpa using hy)), list_congr (x := cap.toList) fun y hy => h y (by simp [Op.operands]; exact .inr (by simpa using hy))]
  | slice t x lo hi mx =>
    simp only [pureF]
    rw [h x (by simp [Op.operands]), opt_congr (x := lo) fun y hy => h y (by simp [Op.operands, hy]), opt_congr (x := hi) fun y hy => h y (by simp [Op.operands, hy]), opt_congr (x := mx) fun y hy => h y (by simp [Op.operands, hy])]
  | call c =>
    obtain ⟨callee, args, ts⟩ := c
    simp only [pureF]
    rw [list_congr (x := args.toList) fun y hy => h y (by simp [Op.operands, Call.operands]; exact .inr (by simpa using hy))]
  | _ => simp [Op.operands] at h <;> simp [pureF, h]
theorem stepF_congr {P : Program} {S : List Blk} {ρ ρ' : Operand → AV} {op : Op} (h : ∀ x ∈ op.operands, ρ' x = ρ x) : stepF P S ρ' op = stepF P S ρ op := by
  cases op with
  | buildSlice t len parts => simp only [stepF]; rw [parts_congr fun y hy => h y (by simpa [Op.operands] using hy)]
  | call c =>
    have hp := pureF_congr (P := P) (S := S) h
    obtain ⟨callee, args, ts⟩ := c
    have ha : ∀ y ∈ args.toList, ρ' y = ρ y := fun y hy => h y (by simp [Op.operands, Call.operands]; exact .inr (by simpa using hy))
    simp only [stepF, hp]
    split
    · next s x t tx hs hx =>
      rw [ha s (by rw [hs]; simp), ha x (by rw [hs]; simp)]
    · next s x t tx hs hx =>
      rw [ha s (by rw [hs]; simp), ha x (by rw [hs]; simp)]
    · rfl
  | alloc t => rfl
  | box t x => simp only [stepF]; rw [h x (by simp [Op.operands])]
  | makeSlice t l c => simp only [stepF]; rw [h l (by simp [Op.operands]), h c (by simp [Op.operands])]
  | store t a v => simp only [stepF]; rw [h a (by simp [Op.operands]), h v (by simp [Op.operands])]
  | insert t m k v => simp only [stepF]; rw [h m (by simp [Op.operands]), h k (by simp [Op.operands]), h v (by simp [Op.operands])]
  | mapUpdate t m k v => simp only [stepF]; rw [h m (by simp [Op.operands]), h k (by simp [Op.operands]), h v (by simp [Op.operands])]
  | makeMap t r => simp only [stepF]; rw [opt_congr (x := r) fun y hy => h y (by simp [Op.operands, hy])]
  | range t x => simp only [stepF]; rw [h x (by simp [Op.operands])]
  | _ => simp only [stepF]; rw [pureF_congr h]
theorem fpOp_congr {ρ ρ' : Operand → AV} {op : Op} (h : ∀ x ∈ op.operands, ρ' x = ρ x) : fpOp ρ' op = fpOp ρ op := by
  cases op with
  | call c =>
    obtain ⟨callee, args, ts⟩ := c
    simp only [fpOp]
    have : ∀ l : List Operand, (∀ y ∈ l, ρ' y = ρ y) → l.flatMap (fun x => fpV (ρ' x)) = l.flatMap (fun x => fpV (ρ x)) := by
      intro l
      induction l with
      | nil => intro _; rfl
      | cons y l ih => intro hl; rw [List.flatMap_cons, List.flatMap_cons, hl y (by simp), ih fun z hz => hl z (by simp [hz])]
    exact this _ fun y hy => h y (by simp [Op.operands, Call.operands]; exact .inr (by simpa using hy))
  | _ => first | rfl | (simp [Op.operands] at h; simp [fpOp, h])
end Go.Fen
namespace Go.Fen
open Go.RowKit
section
variable {P : Program} {w0 : World} {n0 N : Nat} {r : Option Nat} {ops : Array Oper} {Q : APost} {k : List TI} {env : Env} {S : List Blk}
theorem runX_panic (k : List TI) (v : AV) : RunX P w0 n0 N r k Q (.panic v) env S = Q (.panic v) env S := by
  induction k with
  | nil => rfl
  | cons x k ih => cases x <;> exact ih
def OpA (P : Program) (w0 : World) (N : Nat) (ops : Array Oper) (Q : APost) (i : Nat) (K : Env → List Blk → Prop) (env : Env) (S : List Blk) : Prop :=
  ∃ o, ops[i]? = some o ∧ dstOk N o.dst = true ∧
    ((guardA ops env o = some false ∧ K (putA env o.dst (.tup [])) S) ∨
     (guardA ops env o = some true ∧ ∃ v S', stepF P S (evalA w0 env) o.op = some (v, S') ∧ K (putA env o.dst v) S') ∨
     (guardA ops env o = some true ∧ ∃ (fop : Operand) (args : Array Operand) (tys : Array TypeId) (f : FuncId) (first cap : List AV) (sh : List Nat), o.op = .call ⟨.value fop, args, tys⟩ ∧ evalA w0 env fop = .fn (.func f) first cap ∧
       ACall P w0 f ((first ++ args.toList.map (evalA w0 env) ++ cap).map (conv (sh.foldl markFull S) (frA (sh.foldl markFull S)) 4)) (sh.foldl markFull S)
         (fun out S' => match out with
           | .ret v => K (putA env o.dst v) S'
           | .panic v => Q (.panic v) env S')))
theorem OpA.mono {i : Nat} {K K' : Env → List Blk → Prop} (h : OpA P w0 N ops Q i K env S) (hk : ∀ env S, K env S → K' env S) : OpA P w0 N ops Q i K' env S := by
  obtain ⟨o, h1, h2, h3⟩ := h
  refine ⟨o, h1, h2, ?_⟩
  rcases h3 with ⟨a, b⟩ | ⟨a, v, S', b, c⟩ | ⟨a, fop, args, tys, f, first, cap, sh, b, c, d⟩
  · exact .inl ⟨a, hk _ _ b⟩
  · exact .inr (.inl ⟨a, v, S', b, hk _ _ c⟩)
  · refine .inr (.inr ⟨a, fop, args, tys, f, first, cap, sh, b, c, d.mono fun out S' h => ?_⟩)
    cases out with
    | ret v => exact hk _ _ h
    | panic v => exact h
def relB (ops : Array Oper) (j p : Nat) : Bool :=
  match ops[j]? with
  | some oj => !(oj.after.any fun e => Region.binds .any e && e.on == p)
  | none => true
def ProtL (ops : Array Oper) (j : Nat) : List (Nat × List Nat) → List Blk → List Blk → Prop
  | [], _, _ => True
  | p :: ps, S, S' => (relB ops j p.1 = true → ∀ a ∈ p.2, S'[a]? = S[a]?) ∧ ProtL ops j ps S S'
def AnyP (P : Program) (w0 : World) (n0 N : Nat) (r : Option Nat) (ops : Array Oper) (k : List TI) (Q : APost) : Nat → Array Bool → List (Nat × List Nat) → Env → List Blk → Prop
  | 0, listed, _, env, S => Region.ready .any ops listed = [] ∧ RunX P w0 n0 N r k Q .normal env S
  | f + 1, listed, prot, env, S => (Region.ready .any ops listed = [] → RunX P w0 n0 N r k Q .normal env S) ∧
      ∀ i ∈ Region.ready .any ops listed, OpA P w0 N ops Q i (fun env' S' => ProtL ops i prot S S' ∧ AnyP P w0 n0 N r ops k Q f (listed.setIfInBounds i true) prot env' S') env S
theorem opIn_monoQ {F : Fence} {i : Nat} {K K' : Act → World → Prop} {Q Q' : Exit → Act → World → Prop} {a : Act} {w : World} (hk : ∀ a w, K a w → K' a w) (hq : ∀ e a w, Q e a w → Q' e a w) (h : wpOpIn F 0 P ops Q i K a w) : wpOpIn F 0 P ops Q' i K' a w := by
  unfold wpOpIn at *
  split
  · next ho => simp only [ho] at h; exact hk _ _ h
  · next o ho =>
    simp only [ho] at h
    split
    · next hw => simp only [hw, if_true] at h; exact ⟨h.1, upon_mono hk hq _ h.2⟩
    · next hw => simp only [hw] at h; exact ⟨h.1, hk _ _ h.2⟩
theorem anyIn_monoQ {F : Fence} {Q Q' : Exit → Act → World → Prop} (hq : ∀ e a w, Q e a w → Q' e a w) : ∀ (f : Nat) (listed : Array Bool) (a : Act) (w : World), wpAnyIn F 0 P .any ops Q f listed a w → wpAnyIn F 0 P .any ops Q' f listed a w
  | 0, _, _, _, h => ⟨h.1, hq _ _ _ h.2⟩
  | f + 1, _, _, _, h => ⟨fun e => hq _ _ _ (h.1 e), fun i hi => opIn_monoQ (anyIn_monoQ hq f _) hq (h.2 i hi)⟩
theorem call_upon {o : Oper} {fop : Operand} {args : Array Operand} {tys : Array TypeId} {f : FuncId} {first cap : List AV} {R : AOut → List Blk → Prop} {ι : List Pl} {ψ : Psi} {a : Act} {w : World} (sh : List Nat)
    (ho : o.op = .call ⟨.value fop, args, tys⟩) (hf : evalA w0 env fop = .fn (.func f) first cap)
    (h : ACall P w0 f ((first ++ args.toList.map (evalA w0 env) ++ cap).map (conv (sh.foldl markFull S) (frA (sh.foldl markFull S)) 4)) (sh.foldl markFull S) R)
    (hR : Rel w0 ι ψ S w) (hE : EnvR ι ψ N env a) (K : Act → World → Prop) (QQ : Exit → Act → World → Prop)
    (hk : ∀ ι' ψ' w' v cv S', Ext ι ψ ι' ψ' → Rel w0 ι' ψ' S' w' → VR ι' ψ' v cv → R (.ret v) S' → K (a.put o.dst cv) w')
    (hq : ∀ ι' ψ' w' v ch S', Ext ι ψ ι' ψ' → Rel w0 ι' ψ' S' w' → XR ι' ψ' (.panic v) (.panic ch) → R (.panic v) S' → QQ (.panic ch) a w') :
    o.uponIn (FR r) 0 P a K QQ ((execOp a.eval o).run P w) := by
  obtain ⟨ψ1, hle, hR1⟩ := markAll_sound (w0 := w0) sh S ψ hR
  have hE1 : EnvR ι ψ1 N env a := hE.mono ⟨(Ext.refl ι ψ).pl, hle⟩
  have hfr := frozen_full hR1
  have hvf := hE1.eval hR1 fop
  rw [hf] at hvf
  generalize hcf : a.eval fop = cf at hvf
  cases hvf with
  | fn _ _ _ vf vc hl1 hl2 h1 h2 =>
    have hres : (execOp a.eval o).run P w = .ok (.enter f (vf ++ args.map a.eval ++ vc)) w := by
      simp [execOp, ho, resolve, hcf, Deferred.ofValue, invoke, h.1]
    rw [hres]
    refine ⟨fun h => depth_FR r h, callsIn_FR (r := r) ?_⟩
    refine (h.2 ι ψ1 w (vf ++ args.map a.eval ++ vc) hR1 (by simp [hl1, hl2]) ?_).mono ?_
    · intro j x c hx hc
      rw [List.getElem?_map, Option.map_eq_some_iff] at hx
      obtain ⟨y, hy, rfl⟩ := hx
      refine conv_sound hR1 (Psi.le_refl _) hfr 4 y c ?_
      have hc' : (vf.toList ++ args.toList.map a.eval ++ vc.toList)[j]? = some c := by
        rw [← Array.getElem?_toList] at hc
        simpa using hc
      by_cases hj1 : j < first.length
      · rw [List.append_assoc, List.getElem?_append_left hj1] at hy
        rw [List.append_assoc, List.getElem?_append_left (by simp; omega)] at hc'
        exact h1 j y c hy (by simpa using hc')
      · by_cases hj2 : j < first.length + args.size
        · rw [List.append_assoc, List.getElem?_append_right (by omega), List.getElem?_append_left (by simp; omega)] at hy
          rw [List.append_assoc, List.getElem?_append_right (by simp; omega), List.getElem?_append_left (by simp; omega)] at hc'
          simp only [Array.length_toList, ← hl1, List.getElem?_map, Option.map_eq_some_iff] at hy hc'
          obtain ⟨z, hz, rfl⟩ := hy
          obtain ⟨z', hz', rfl⟩ := hc'
          rw [hz] at hz'; cases hz'
          exact hE1.eval hR1 z
        · rw [List.getElem?_append_right (by simp; omega)] at hy
          rw [List.getElem?_append_right (by simp; omega)] at hc'
          simp only [List.length_append, List.length_map, Array.length_toList, ← hl1] at hy hc'
          exact h2 _ y c hy (by simpa using hc')
    · rintro e w' ⟨ι', ψ', out, S', e1, e2, e3, e4⟩
      have hx : Ext ι ψ ι' ψ' := (show Ext ι ψ ι ψ1 from ⟨(Ext.refl ι ψ).pl, hle⟩).trans e1
      cases out with
      | ret v =>
        cases e <;> simp only [OutR] at e3
        exact hk ι' ψ' w' v _ S' hx e2 e3 e4
      | panic v =>
        cases e <;> simp only [OutR] at e3
        exact hq ι' ψ' w' v _ S' hx e2 e3 e4
theorem opA_sound {i : Nat} {K : Env → List Blk → Prop} (h : OpA P w0 N ops Q i K env S) {ι : List Pl} {ψ : Psi} {a : Act} {w : World} (hR : Rel w0 ι ψ S w) (hE : EnvR ι ψ N env a) :
    wpOpIn (FR r) 0 P ops (Post w0 n0 N ι ψ (RunX P w0 n0 N r k Q)) i (fun a' w' => ∃ ι' ψ' env' S', Ext ι ψ ι' ψ' ∧ Rel w0 ι' ψ' S' w' ∧ EnvR ι' ψ' N env' a' ∧ K env' S') a w := by
  obtain ⟨o, ho, hd, h⟩ := h
  unfold wpOpIn
  simp only [ho]
  rcases h with ⟨hg, hk⟩ | ⟨hg, v, S', hs, hk⟩ | ⟨hg, fop, args, tys, f, first, cap, sh, hop, hf, hcall⟩
  · have hw := guardA_sound hE hg
    simp only [hw, Bool.false_eq_true, if_false]
    exact ⟨fun _ _ => trivial, ι, ψ, _, _, Ext.refl _ _, hR, hE.putA (.tup _ _ rfl (by simp)) hd, hk⟩
  · have hw := guardA_sound hE hg
    simp only [hw, if_true]
    refine ⟨fun _ _ => trivial, ?_⟩
    rw [Oper.semAt_eq _ _ _ (fun c hc => by rw [hc] at hs; simp [stepF, pureF] at hs)]
    obtain ⟨ι', ψ', w', nx, cv, h1, h2, h3, h4, h5⟩ := stepF_sound hR (fun x => hE.eval hR x) hs
    rw [h1]
    have : ∃ ι' ψ' env' S', Ext ι ψ ι' ψ' ∧ Rel w0 ι' ψ' S' w' ∧ EnvR ι' ψ' N env' (a.put o.dst cv) ∧ K env' S' := ⟨ι', ψ', _, S', h3, h4, (hE.mono h3).putA h5 hd, hk⟩
    rcases h2 with rfl | ⟨rfl, rfl⟩
    · exact this
    · exact this
  · -- the call goes through the rule for lists
    have hw := guardA_sound hE hg
    simp only [hw, if_true]
    refine ⟨fun _ _ => trivial, ?_⟩
    rw [Oper.semAt_eq _ _ _ (fun c hc => by rw [hc] at hop; cases hop)]
    exact call_upon (r := r) sh hop hf hcall hR hE _ _ (fun ι' ψ' w' v cv S' e1 e2 e3 e4 => ⟨ι', ψ', _, S', e1, e2, (hE.mono e1).putA e3 hd, e4⟩)
      (fun ι' ψ' w' v ch S' e1 e2 e3 e4 => ⟨ι', ψ', .panic v, env, S', e1.take n0, e2, hE.mono e1, e3, by rw [runX_panic]; exact e4⟩)
theorem anyP_sound : ∀ (f : Nat) (listed : Array Bool) (prot : List (Nat × List Nat)) (env : Env) (S : List Blk), AnyP P w0 n0 N r ops k Q f listed prot env S → ∀ (ι : List Pl) (ψ : Psi) (a : Act) (w : World), Rel w0 ι ψ S w → EnvR ι ψ N env a →
    wpAnyIn (FR r) 0 P .any ops (Post w0 n0 N ι ψ (RunX P w0 n0 N r k Q)) f listed a w := by
  intro f
  induction f with
  | zero => intro listed prot env S h ι ψ a w hR hE; exact ⟨h.1, Post.here hR hE (x := .normal) trivial h.2⟩
  | succ f ih =>
    intro listed prot env S h ι ψ a w hR hE
    refine ⟨fun e => Post.here hR hE (x := .normal) trivial (h.1 e), fun i hi => ?_⟩
    refine wpOpIn_mono (fun a' w' hk => ?_) (opA_sound (n0 := n0) (r := r) (k := k) (h.2 i hi) hR hE)
    obtain ⟨ι', ψ', env', S', e1, e2, e3, _, e4⟩ := hk
    exact anyIn_monoQ (fun e a2 w2 hp => hp.chain (e1.take n0)) f _ _ _ (ih _ prot env' S' e4 ι' ψ' a' w' e2 e3)
theorem x_draw {id : Nat} (hm : P.follows .mixedOrders = true) (h : AnyP P w0 n0 N r ops k Q ops.size (Array.replicate ops.size false) [] env S) : RunX P w0 n0 N r (.it (.code (.region id ops true)) :: k) Q .normal env S :=
  fun ι ψ w a hR hE => wpIn_region_any hm (anyP_sound _ _ _ _ _ h ι ψ a _ (hR.same_heap rfl rfl rfl rfl) hE)
theorem protL_weaken {j : Nat} {p : Nat × List Nat} {ps : List (Nat × List Nat)} {S S' : List Blk} (h : ProtL ops j (p :: ps) S S') : ProtL ops j ps S S' := h.2
theorem protL_same {j : Nat} : ∀ {ps : List (Nat × List Nat)} {S : List Blk}, ProtL ops j ps S S
  | [], _ => trivial
  | _ :: _, _ => ⟨fun _ _ _ => rfl, protL_same⟩
theorem anyP_weaken {p : Nat × List Nat} {ps : List (Nat × List Nat)} : ∀ (f : Nat) (listed : Array Bool) (env : Env) (S : List Blk), AnyP P w0 n0 N r ops k Q f listed (p :: ps) env S → AnyP P w0 n0 N r ops k Q f listed ps env S
  | 0, _, _, _, h => h
  | f + 1, _, _, _, h => ⟨h.1, fun i hi => (h.2 i hi).mono fun _ _ ⟨a, b⟩ => ⟨protL_weaken a, anyP_weaken f _ _ _ b⟩⟩
theorem evalA_put {d : Option Nat} {v : AV} {x : Operand} (h : ∀ t, d = some t → x ≠ .tmp t) : evalA w0 (putA env d v) x = evalA w0 env x := by
  cases d with
  | none => rfl
  | some t =>
    cases x with
    | tmp s =>
      have : s ≠ t := fun e => h t rfl (by rw [e])
      simp [evalA, putA, upd, this]
    | _ => rfl
theorem operands_put {o : Oper} {d : Option Nat} {v : AV} (h : ∀ t, d = some t → t ∉ o.looksAt ops) : ∀ x ∈ o.op.operands, evalA w0 (putA env d v) x = evalA w0 env x := fun x hx =>
  evalA_put fun t ht e => h t ht (by
    subst e
    unfold Oper.looksAt
    refine List.mem_append_left _ (List.mem_filterMap.2 ⟨.tmp t, by simpa using hx, rfl⟩))
theorem guardA_put {o : Oper} {d : Option Nat} {v : AV} (h : ∀ t, d = some t → t ∉ o.looksAt ops) : guardA ops (putA env d v) o = guardA ops env o := by
  unfold guardA
  cases hg : o.guard with
  | none => rfl
  | some p =>
    obtain ⟨g, want⟩ := p
    cases ho : ops[g]? with
    | none => simp [ho]
    | some og =>
      cases hd : og.dst with
      | none => simp [ho, hd]
      | some s =>
        have : putA env d v s = env s := by
          cases d with
          | none => rfl
          | some t =>
            have hne : s ≠ t := fun e => h t rfl (by
              subst e
              unfold Oper.looksAt
              exact List.mem_append_right _ (by simp [hg, ho, hd]))
            simp [putA, upd, hne]
        simp [ho, hd, this]
theorem putA_comm {d e : Option Nat} {v u : AV} (h : ∀ t, d = some t → e ≠ some t) : putA (putA env d v) e u = putA (putA env e u) d v := by
  cases d with
  | none => rfl
  | some t =>
    cases e with
    | none => rfl
    | some s =>
      have hne : s ≠ t := fun e => h t rfl (by rw [e])
      funext x
      simp only [putA, upd]
      by_cases h1 : x = s
      · subst h1; simp [hne]
      · simp [h1]
def ReadsAt (w0 : World) (P : Program) (ops : Array Oper) (o : Oper) (v : AV) (fp : List Nat) (env : Env) (S : List Blk) : Prop :=
  (guardA ops env o = some false ∧ v = .tup []) ∨ (guardA ops env o = some true ∧ isReader o.op = true ∧ fpOp (evalA w0 env) o.op = fp ∧ stepF P S (evalA w0 env) o.op = some (v, S))
theorem ReadsAt.later {o oj : Oper} {v u : AV} {fp : List Nat} {S' : List Blk} (h : ReadsAt w0 P ops o v fp env S) (hap : ∀ t, oj.dst = some t → t ∉ o.looksAt ops) (hS : ∀ a ∈ fp, S'[a]? = S[a]?) : ReadsAt w0 P ops o v fp (putA env oj.dst u) S' := by
  rcases h with ⟨h1, h2⟩ | ⟨h1, h2, h3, h4⟩
  · exact .inl ⟨by rw [guardA_put hap]; exact h1, h2⟩
  · have hop := operands_put (w0 := w0) (env := env) (v := u) hap
    refine .inr ⟨by rw [guardA_put hap]; exact h1, h2, by rw [fpOp_congr hop]; exact h3, ?_⟩
    rw [stepF_congr hop, stepF_reader h2]
    rw [stepF_reader h2] at h4
    rw [pureF_keep (S := S) (S' := S') (by rw [h3]; exact hS)]
    cases hp : pureF P S (evalA w0 env) o.op with
    | none => rw [hp] at h4; cases h4
    | some x => rw [hp] at h4; simp at h4 ⊢; exact h4
theorem putA_ds {d : Option Nat} {v : AV} (hd : dstOk N d = true) (hN : N ≤ DS) : putA env d v DS = env DS := by
  cases d with
  | none => rfl
  | some t =>
    have : t < N := by simpa [dstOk] using hd
    simp only [putA, upd]
    rw [if_neg (by omega)]
theorem anyP_take {i : Nat} {oi : Oper} {v : AV} {fp : List Nat} (hi : ops[i]? = some oi) (hd : dstOk N oi.dst = true) (hN : N ≤ DS) (hQ : ∀ v env env' S, env' DS = env DS → Q (.panic v) env S → Q (.panic v) env' S) :
    ∀ (f : Nat) (listed : Array Bool) (prot : List (Nat × List Nat)) (env : Env) (S : List Blk),
      (∀ j oj, ops[j]? = some oj → j ≠ i → listed.getD j true = false → (∀ e ∈ oj.after, Region.binds .any e = true → e.on ≠ i) → oi.apart ops oj = true) →
      i ∈ Region.ready .any ops listed → ReadsAt w0 P ops oi v fp env S → AnyP P w0 n0 N r ops k Q f (listed.setIfInBounds i true) ((i, fp) :: prot) (putA env oi.dst v) S → AnyP P w0 n0 N r ops k Q (f + 1) listed prot env S := by
  intro f
  induction f with
  | zero =>
    intro listed prot env S hfree hr hrd h
    refine ⟨fun e => (by rw [e] at hr; cases hr), fun j hj => ?_⟩
    by_cases hji : j = i
    · subst hji
      refine ⟨oi, hi, hd, ?_⟩
      rcases hrd with ⟨h1, h2⟩ | ⟨h1, h2, h3, h4⟩
      · subst h2
        exact .inl ⟨h1, protL_same, anyP_weaken _ _ _ _ h⟩
      · exact .inr (.inl ⟨h1, v, S, h4, protL_same, anyP_weaken _ _ _ _ h⟩)
    · have := ready_mono hj hji
      rw [h.1] at this; cases this
  | succ f ih =>
    intro listed prot env S hfree hr hrd h
    refine ⟨fun e => (by rw [e] at hr; cases hr), fun j hj => ?_⟩
    by_cases hji : j = i
    · subst hji
      refine ⟨oi, hi, hd, ?_⟩
      rcases hrd with ⟨h1, h2⟩ | ⟨h1, h2, h3, h4⟩
      · subst h2
        exact .inl ⟨h1, protL_same, anyP_weaken _ _ _ _ h⟩
      · exact .inr (.inl ⟨h1, v, S, h4, protL_same, anyP_weaken _ _ _ _ h⟩)
    · obtain ⟨hun, oj, hoj, hall⟩ := mem_ready.1 hj
      have hiu : listed.getD i false = false := by
        have := (mem_ready.1 hr).1
        simp only [Array.getD_eq_getD_getElem?] at this ⊢
        cases e : listed[i]? with
        | none => rfl
        | some b => rw [e] at this; simpa using this
      have hno : ∀ e ∈ oj.after, Region.binds .any e = true → e.on ≠ i := fun e he hb heq => by
        have := hall e he hb
        rw [heq, hiu] at this; cases this
      have hap := hfree j oj hoj hji hun hno
      obtain ⟨a1, a2, a3⟩ := Oper.apart_spec hap
      have hrel : relB ops j i = true := by
        unfold relB
        simp only [hoj]
        simp only [Bool.not_eq_true', Array.any_eq_false']
        intro e he
        by_cases hb : Region.binds .any e = true
        · simp [hb, hno e he hb]
        · simp [hb]
      obtain ⟨o, ho, hdj, hcase⟩ := h.2 j (ready_mono hj hji)
      rw [hoj] at ho; cases ho
      have hcomm : (listed.setIfInBounds i true).setIfInBounds j true = (listed.setIfInBounds j true).setIfInBounds i true := by
        apply Array.ext_getElem?
        intro m
        simp only [Array.getElem?_setIfInBounds]
        by_cases h1 : i = m <;> by_cases h2 : j = m <;> simp_all
      have hop := operands_put (w0 := w0) (env := env) (v := v) a1
      have hgd := guardA_put (env := env) (v := v) a1
      have next : ∀ (u : AV) (S' : List Blk), (ProtL ops j ((i, fp) :: prot) S S' ∧ AnyP P w0 n0 N r ops k Q f ((listed.setIfInBounds i true).setIfInBounds j true) ((i, fp) :: prot) (putA (putA env oi.dst v) oj.dst u) S') →
          ProtL ops j prot S S' ∧ AnyP P w0 n0 N r ops k Q (f + 1) (listed.setIfInBounds j true) prot (putA env oj.dst u) S' := by
        rintro u S' ⟨hp, hk⟩
        refine ⟨hp.2, ih _ prot _ S' ?_ (ready_mono hr (fun e => hji e.symm)) (hrd.later a3 (hp.1 hrel)) ?_⟩
        · intro m om hom hmi hmu hmno
          refine hfree m om hom hmi ?_ hmno
          by_cases hmj : m = j
          · subst hmj
            simp only [Array.getD_eq_getD_getElem?, Array.getElem?_setIfInBounds] at hmu ⊢
            by_cases hlt : m < listed.size
            · simp [hlt] at hmu
            · simp [hlt] at hmu
          · rw [getD_set_ne true (fun e => hmj e.symm)] at hmu; exact hmu
        · rw [← hcomm, ← putA_comm a2]; exact hk
      refine ⟨oj, hoj, hdj, ?_⟩
      rcases hcase with ⟨b1, b2⟩ | ⟨b1, u, S', b2, b3⟩ | ⟨b1, fop, args, tys, fn, first, cap, sh, b2, b3, b4⟩
      · exact .inl ⟨by rw [← hgd]; exact b1, next _ _ b2⟩
      · exact .inr (.inl ⟨by rw [← hgd]; exact b1, u, S', by rw [← stepF_congr hop]; exact b2, next _ _ b3⟩)
      · have hargs : args.toList.map (evalA w0 (putA env oi.dst v)) = args.toList.map (evalA w0 env) := list_congr fun y hy => hop y (by rw [b2]; simp [Op.operands, Call.operands]; exact .inr (by simpa using hy))
        have hfop : evalA w0 (putA env oi.dst v) fop = evalA w0 env fop := hop fop (by rw [b2]; simp [Op.operands, Call.operands])
        refine .inr (.inr ⟨by rw [← hgd]; exact b1, fop, args, tys, fn, first, cap, sh, b2, by rw [← hfop]; exact b3, ?_⟩)
        rw [hargs] at b4
        refine b4.mono fun out S' hk => ?_
        cases out with
        | ret u => exact next u S' hk
        | panic u => exact hQ u _ _ _ (putA_ds hd hN).symm hk
end
end Go.Fen
namespace Go.Fen
open Go.RowKit
def nextR (ops : Array Oper) (listed : Array Bool) : Option Nat :=
  (Region.ready .any ops listed).find? fun i => (match ops[i]? with
    | some o => isReader o.op
    | none => false) && Region.free .any ops listed i
theorem nextR_spec {ops : Array Oper} {listed : Array Bool} {i : Nat} (h : nextR ops listed = some i) : i ∈ Region.ready .any ops listed ∧ (∀ o, ops[i]? = some o → isReader o.op = true) ∧ Region.free .any ops listed i = true := by
  have h1 := List.mem_of_find?_eq_some h
  have h2 := List.find?_some h
  simp only [Bool.and_eq_true] at h2
  exact ⟨h1, fun o ho => by rw [ho] at h2; exact h2.1, h2.2⟩
def QDs (Q : APost) : Prop := ∀ v env env' S, env' DS = env DS → Q (.panic v) env S → Q (.panic v) env' S
theorem qds_FPost {P : Program} {F : Func} {S0 : List Blk} {R : AOut → List Blk → Prop} : QDs (FPost P F S0 R) := by
  intro v env env' S he h
  obtain ⟨ms, S1, h1, h2⟩ := h
  exact ⟨ms, S1, he.trans h1, h2⟩
section
variable {P : Program} {w0 : World} {n0 N : Nat} {r : Option Nat} {ops : Array Oper} {Q : APost} {k : List TI} {env : Env} {S : List Blk} {f : Nat} {listed : Array Bool} {prot : List (Nat × List Nat)}
theorem d_draw {id n : Nat} (hm : P.follows .mixedOrders = true) (hn : ops.size = n) (h : AnyP P w0 n0 N r ops k Q n (Array.replicate n false) [] env S) : RunX P w0 n0 N r (.it (.code (.region id ops true)) :: k) Q .normal env S :=
  x_draw hm (by rw [hn]; exact h)
theorem d_done (hr : Region.ready .any ops listed = []) (h : RunX P w0 n0 N r k Q .normal env S) : AnyP P w0 n0 N r ops k Q f listed prot env S := by
  cases f with
  | zero => exact ⟨hr, h⟩
  | succ f => exact ⟨fun _ => h, fun i hi => by rw [hr] at hi; cases hi⟩
theorem d_take (i : Nat) {oi : Oper} {v : AV} {fp : List Nat} (hn : nextR ops listed = some i) (hQ : QDs Q) (hN : decide (N ≤ DS) = true) (hi : ops[i]? = some oi) (hg : guardA ops env oi = some true) (hs : stepF P S (evalA w0 env) oi.op = some (v, S))
    (hd : dstOk N oi.dst = true) (hfp : fpOp (evalA w0 env) oi.op = fp) (h : AnyP P w0 n0 N r ops k Q f (listed.setIfInBounds i true) ((i, fp) :: prot) (putA env oi.dst v) S) : AnyP P w0 n0 N r ops k Q (f + 1) listed prot env S := by
  obtain ⟨h1, h2, h3⟩ := nextR_spec hn
  exact anyP_take hi hd (by simpa using hN) hQ f listed prot env S (Region.free_spec hi h3) h1 (.inr ⟨hg, h2 _ hi, hfp, hs⟩) h
theorem d_unw (i : Nat) {oi : Oper} (hn : nextR ops listed = some i) (hQ : QDs Q) (hN : decide (N ≤ DS) = true) (hi : ops[i]? = some oi) (hg : guardA ops env oi = some false)
    (hd : dstOk N oi.dst = true) (h : AnyP P w0 n0 N r ops k Q f (listed.setIfInBounds i true) ((i, []) :: prot) (putA env oi.dst (.tup [])) S) : AnyP P w0 n0 N r ops k Q (f + 1) listed prot env S := by
  obtain ⟨h1, h2, h3⟩ := nextR_spec hn
  exact anyP_take hi hd (by simpa using hN) hQ f listed prot env S (Region.free_spec hi h3) h1 (.inl ⟨hg, rfl⟩) h
theorem d_one (i : Nat) (hr : Region.ready .any ops listed = [i]) (h : OpA P w0 N ops Q i (fun env' S' => ProtL ops i prot S S' ∧ AnyP P w0 n0 N r ops k Q f (listed.setIfInBounds i true) prot env' S') env S) : AnyP P w0 n0 N r ops k Q (f + 1) listed prot env S :=
  ⟨fun e => (by rw [e] at hr; cases hr), fun j hj => (by
    rw [hr] at hj
    obtain rfl : j = i := by simpa using hj
    exact h)⟩
theorem d_two (i j : Nat) (hr : Region.ready .any ops listed = [i, j]) (h : OpA P w0 N ops Q i (fun env' S' => ProtL ops i prot S S' ∧ AnyP P w0 n0 N r ops k Q f (listed.setIfInBounds i true) prot env' S') env S)
    (h' : OpA P w0 N ops Q j (fun env' S' => ProtL ops j prot S S' ∧ AnyP P w0 n0 N r ops k Q f (listed.setIfInBounds j true) prot env' S') env S) : AnyP P w0 n0 N r ops k Q (f + 1) listed prot env S :=
  ⟨fun e => (by rw [e] at hr; cases hr), fun m hm => (by
    rw [hr] at hm
    rcases List.mem_cons.1 hm with rfl | hm
    · exact h
    · obtain rfl : m = j := by simpa using hm
      exact h')⟩
variable {i : Nat} {o : Oper} {K : Env → List Blk → Prop}
theorem o_step {v : AV} {S' : List Blk} (hi : ops[i]? = some o) (hg : guardA ops env o = some true) (hs : stepF P S (evalA w0 env) o.op = some (v, S')) (hd : dstOk N o.dst = true) (h : K (putA env o.dst v) S') : OpA P w0 N ops Q i K env S :=
  ⟨o, hi, hd, .inr (.inl ⟨hg, v, S', hs, h⟩)⟩
theorem o_unw (hi : ops[i]? = some o) (hg : guardA ops env o = some false) (hd : dstOk N o.dst = true) (h : K (putA env o.dst (.tup [])) S) : OpA P w0 N ops Q i K env S :=
  ⟨o, hi, hd, .inl ⟨hg, h⟩⟩
def afterOp (Q : APost) (K : Env → List Blk → Prop) (env : Env) (dst : Option Nat) : AOut → List Blk → Prop
  | .ret v, S' => K (putA env dst v) S'
  | .panic v, S' => Q (.panic v) env S'
theorem o_call {fop : Operand} {args : Array Operand} {tys : Array TypeId} {g : FuncId} {first cap A : List AV} {S1 : List Blk} (sh : List Nat) (hi : ops[i]? = some o) (hg : guardA ops env o = some true)
    (ho : o.op = .call ⟨.value fop, args, tys⟩) (hf : evalA w0 env fop = .fn (.func g) first cap) (hd : dstOk N o.dst = true)
    (hS : sh.foldl markFull S = S1) (hA : cvL S1 (first ++ args.toList.map (evalA w0 env) ++ cap) = A) (h : ACall P w0 g A S1 (afterOp Q K env o.dst)) : OpA P w0 N ops Q i K env S := by
  subst hS hA
  refine ⟨o, hi, hd, .inr (.inr ⟨hg, fop, args, tys, g, first, cap, sh, ho, hf, h.mono fun out S' hk => ?_⟩)⟩
  cases out <;> exact hk
theorem pr_nil {S S' : List Blk} (h : K env S') : ProtL ops i [] S S' ∧ K env S' := ⟨trivial, h⟩
theorem pr_same {B : Prop} (h : B) : ProtL ops i prot S S ∧ B := ⟨protL_same, h⟩
theorem pr_go {S S' : List Blk} {B : Prop} (h1 : ProtL ops i prot S S') (h : B) : ProtL ops i prot S S' ∧ B := ⟨h1, h⟩
theorem pl_nil {S S' : List Blk} : ProtL ops i [] S S' := trivial
theorem pl_none {p : Nat} {S S' : List Blk} (h : ProtL ops i prot S S') : ProtL ops i ((p, []) :: prot) S S' := ⟨fun _ _ ha => (by cases ha), h⟩
theorem pl_skip {p : Nat × List Nat} {S S' : List Blk} (hp : relB ops i p.1 = false) (h : ProtL ops i prot S S') : ProtL ops i (p :: prot) S S' := ⟨fun e => (by rw [e] at hp; cases hp), h⟩
theorem pl_one {p a : Nat} {S S' : List Blk} (ha : S'[a]? = S[a]?) (h : ProtL ops i prot S S') : ProtL ops i ((p, [a]) :: prot) S S' := ⟨fun _ b hb => (by
  obtain rfl : b = a := by simpa using hb
  exact ha), h⟩
end
theorem Rel.thawCell {w0 w : World} {ι : List Pl} {ψ : Psi} {S : List Blk} (h : Rel w0 ι ψ S w) {a j : Nat} {cs : List AV} {ty : Option TypeId} (e : TypeId) (sz : Nat) (ha : S[a]? = some (.cells cs ty)) (hj : cs[j]? = some .snil) (hpos : 0 < sz) :
    Rel w0 (ι ++ [⟨0, 0, .slice none 0 0, sz⟩]) ψ ((S ++ [Blk.arr e sz 0 0 []]).set a (.cells (cs.set j (.sown S.length 0 0)) ty)) w := by
  have hth := h.thaw e sz hpos
  have hlt : a < S.length := (List.getElem?_eq_some_iff.1 ha).1
  have ha' : (S ++ [Blk.arr e sz 0 0 []])[a]? = some (.cells cs ty) := by rw [List.getElem?_append_left hlt]; exact ha
  obtain ⟨pl, hpl, hB⟩ := hth.get ha'
  have hset : (ι ++ [(⟨0, 0, .slice none 0 0, sz⟩ : Pl)]).set a pl = ι ++ [⟨0, 0, .slice none 0 0, sz⟩] := set_self hpl
  have key := hth.update (w' := w) (ψ' := ψ) (B' := .cells (cs.set j (.sown S.length 0 0)) ty) (pl' := pl) ha' hpl (Below.refl _ _) (fun _ _ _ => rfl) (by rw [hset]; exact Ext.refl _ _) ?_ (fun k hk => .inl hk) (fun b o v ev => .inl ⟨ev, fun hk => ?_⟩) rfl
  · rw [hset] at key; exact key
  · rw [hset]
    obtain ⟨h0, ⟨c, T, h1, h2, h3⟩, h4, h5⟩ := hB
    refine ⟨h0, ⟨c, T, h1, by simpa using h2, fun m x ex => ?_⟩, h4, h5⟩
    by_cases hm : m = j
    · subst hm
      have hml : m < cs.length := (List.getElem?_eq_some_iff.1 hj).1
      simp [hml] at ex
      subst ex
      obtain ⟨_, v, hv, hr⟩ := h3 m _ hj
      cases hr
      exact ⟨rfl, _, hv, .sown _ _ _ _ _ ⟨0, 0, .slice none 0 0, sz⟩ (by rw [← h.len]; simp) (Nat.le_refl _) (fun _ => rfl)⟩
    · rw [List.getElem?_set_ne (fun e => hm e.symm)] at ex
      exact h3 m x ex
  · simp [Blk.at] at hk
    obtain ⟨_, _, h4, _⟩ := hB
    rw [← hk, h4 o] at ev; cases ev
theorem x_thawC {P : Program} {w0 : World} {n0 N : Nat} {r : Option Nat} {Q : APost} {k : List TI} {env : Env} {S : List Blk} {i : KI} {a j : Nat} {cs : List AV} {ty : Option TypeId} (e : TypeId) (sz : Nat) (ha : S[a]? = some (.cells cs ty)) (hj : cs[j]? = some .snil) (hpos : 0 < sz)
    (h : RunX P w0 n0 N r (.it i :: k) Q .normal env ((S ++ [Blk.arr e sz 0 0 []]).set a (.cells (cs.set j (.sown S.length 0 0)) ty))) : RunX P w0 n0 N r (.it i :: k) Q .normal env S := by
  intro ι ψ w ac hR hE
  have hx := Ext.push ι ψ ⟨0, 0, .slice none 0 0, sz⟩
  exact KI.mono (h _ _ w ac (hR.thawCell e sz ha hj hpos) (hE.mono hx)) fun e a2 w2 hp => hp.chain (hx.take n0)
attribute [go_sem] fpOp fpV afterOp
end Go.Fen
namespace Go.Fen
open Go.RowKit
variable {P : Program} {w0 w w' : World} {ι : List Pl} {ψ : Psi} {S : List Blk}
def envT (tm : List (Nat × AV)) : Env := tm.foldr (fun p e => upd e p.1 p.2) (fun t => if t = DS then .dfr [] else .junk)
theorem envT_R {N : Nat} {tm : List (Nat × AV)} {vs : Array Value} (hs : vs.size = N) (hN : N ≤ DS) (hlt : ∀ p ∈ tm, p.1 < N) (h : ∀ p ∈ tm, VR ι ψ p.2 (vs.getD p.1 undef)) : EnvR ι ψ N (envT tm) { tmps := vs, defers := [] } := by
  induction tm with
  | nil =>
    refine ⟨hs, hN, ⟨[], [], by simp [envT], rfl, by simp, rfl⟩, fun t => ?_⟩
    simp only [envT, List.foldr_nil]
    split
    · next ht =>
      have : vs.getD t undef = undef := by
        rw [Array.getD_eq_getD_getElem?, Array.getElem?_eq_none (by omega)]; rfl
      rw [this]; exact .dfr [] [] rfl (by simp)
    · exact .junk _
  | cons p tm ih =>
    have hE := ih (fun q hq => hlt q (by simp [hq])) (fun q hq => h q (by simp [hq]))
    have hp := hlt p (by simp)
    refine ⟨hs, hN, ?_, fun t => ?_⟩
    · obtain ⟨l, ws, h1, h2⟩ := hE.defers
      exact ⟨l, ws, by simp only [envT, List.foldr_cons, upd]; rw [if_neg (by omega)]; exact h1, h2⟩
    · simp only [envT, List.foldr_cons, upd]
      split
      · next ht => subst ht; exact h p (by simp)
      · exact hE.tmp t
def setP (env : Env) : List (Nat × AV) → Env
  | [] => env
  | p :: l => setP (upd env p.1 p.2) l
theorem setP_R {N : Nat} : ∀ (ps : List Tmp) (xs : List AV) (cs : List Value) (env : Env) (vs : Array Value), EnvR ι ψ N env { tmps := vs, defers := [] } → ps.length = xs.length → xs.length = cs.length → (∀ p ∈ ps, p < N) →
    (∀ (j : Nat) (x : AV) (c : Value), xs[j]? = some x → cs[j]? = some c → VR ι ψ x c) → EnvR ι ψ N (setP env (ps.zip xs)) { tmps := (ps.zip cs).foldl (fun tmps p => tmps.setIfInBounds p.1 p.2) vs, defers := [] } := by
  intro ps
  induction ps with
  | nil => intro xs cs env vs hE _ _ _ _; simpa [setP] using hE
  | cons p ps ih =>
    intro xs cs env vs hE h1 h2 hlt hv
    cases xs with
    | nil => simp at h1
    | cons x xs =>
      cases cs with
      | nil => simp at h2
      | cons c cs =>
        simp only [List.zip_cons_cons, setP, List.foldl_cons]
        have := hE.put (d := p) (hv 0 x c rfl rfl) (hlt p (by simp))
        exact ih xs cs _ _ this (by simpa using h1) (by simpa using h2) (fun q hq => hlt q (by simp [hq])) (fun j x c hx hc => hv (j + 1) x c (by simpa using hx) (by simpa using hc))
def RPost (a : Nat) (R : AOut → List Blk → Prop) : APost
  | .normal, _, S => ∃ st pend N tm ps asg body, S[a]? = some (.loop st pend N tm ps asg body) ∧ R (.ret (.bool true)) (S.set a (.loop .ready none N tm ps asg body))
  | .ret, _, S => ∃ st pend N tm ps asg body, S[a]? = some (.loop st pend N tm ps asg body) ∧ R (.ret (.bool false)) (S.set a (.loop .done (some .ret) N tm ps asg body))
  | .exit id, _, S => ∃ st pend N tm ps asg body, S[a]? = some (.loop st pend N tm ps asg body) ∧ R (.ret (.bool false)) (S.set a (.loop .done (some (.exit id)) N tm ps asg body))
  | _, _, _ => False
def YA (P : Program) (w0 : World) (a : Nat) (args : List AV) (S : List Blk) (R : AOut → List Blk → Prop) : Prop :=
  ∃ pend N tm ps asg body, S[a]? = some (.loop .ready pend N tm ps asg body) ∧ ps.size = args.length ∧ N ≤ DS ∧ (∀ p ∈ tm, p.1 < N) ∧ (∀ p ∈ ps.toList, p < N) ∧
    ∀ rb : Nat, RunX P w0 S.length N (some rb) [.it (.code asg)] (fun x env1 S1 => x = .normal ∧ ∃ pend', S1[a]? = some (.loop .ready pend' N tm ps asg body) ∧
      RunX P w0 S.length N (some rb) [.it (.code body)] (RPost a R) .normal env1 (S1.set a (.loop .busy pend' N tm ps asg body))) .normal (setP (envT tm) (ps.toList.zip args)) S
theorem YA.mono {a : Nat} {args : List AV} {R R' : AOut → List Blk → Prop} (h : YA P w0 a args S R) (hr : ∀ o S, R o S → R' o S)
    (hm : ∀ {n0 N : Nat} {r : Option Nat} {c : Code} {Q Q' : APost} {env : Env} {S : List Blk}, (∀ x e S, Q x e S → Q' x e S) → RunX P w0 n0 N r [.it (.code c)] Q .normal env S → RunX P w0 n0 N r [.it (.code c)] Q' .normal env S) : YA P w0 a args S R' := by
  obtain ⟨pend, N, tm, ps, asg, body, h1, h2, h3, h4, h5, h6⟩ := h
  refine ⟨pend, N, tm, ps, asg, body, h1, h2, h3, h4, h5, fun rb => hm ?_ (h6 rb)⟩
  rintro x e S ⟨rfl, pend', k1, k2⟩
  refine ⟨rfl, pend', k1, hm (fun x e S hq => ?_) k2⟩
  cases x with
  | normal => obtain ⟨st, pend, N, tm, ps, asg, body, q1, q2⟩ := hq; exact ⟨st, pend, N, tm, ps, asg, body, q1, hr _ _ q2⟩
  | ret => obtain ⟨st, pend, N, tm, ps, asg, body, q1, q2⟩ := hq; exact ⟨st, pend, N, tm, ps, asg, body, q1, hr _ _ q2⟩
  | exit id => obtain ⟨st, pend, N, tm, ps, asg, body, q1, q2⟩ := hq; exact ⟨st, pend, N, tm, ps, asg, body, q1, hr _ _ q2⟩
  | goto l => exact hq
  | panic v => exact hq
theorem runX_one {n0 N : Nat} {r : Option Nat} {c : Code} {Q Q' : APost} {env : Env} (hq : ∀ x e S, Q x e S → Q' x e S) (h : RunX P w0 n0 N r [.it (.code c)] Q .normal env S) : RunX P w0 n0 N r [.it (.code c)] Q' .normal env S :=
  fun ι ψ w a hR hE => KI.mono (it := .code c) (h ι ψ w a hR hE) fun _ _ _ ⟨ι', ψ', x, env', S', h1, h2, h3, h4, h5⟩ => ⟨ι', ψ', x, env', S', h1, h2, h3, h4, hq x env' S' h5⟩
theorem rpost_sound {a : Nat} {R : AOut → List Blk → Prop} {n0 N : Nat} {pl : Pl} (hpl : ι[a]? = some pl) (ha : a < n0) {e : Exit} {ac : Act} {w1 : World}
    (hp : Post w0 n0 N ι ψ (RPost a R) e ac w1) : roundPost P pl.blk (fun e2 w2 => ∃ ι' ψ' out S', Ext (ι.take n0) ψ ι' ψ' ∧ Rel w0 ι' ψ' S' w2 ∧ OutR ι' ψ' out e2 ∧ R out S') e ac w1 := by
  obtain ⟨ι', ψ', x, env', S', h1, h2, h3, h4, h5⟩ := hp
  obtain ⟨p', hp', hb, _⟩ := h1.pl a pl (by rw [List.getElem?_take, if_pos ha]; exact hpl)
  have fin : ∀ (jump : Option Code) (st : LoopState) (pend : Option Code) (N : Nat) (tm : List (Nat × AV)) (ps : Array Tmp) (asg body : Code), S'[a]? = some (.loop st pend N tm ps asg body) →
      R (.ret (.bool jump.isNone)) (S'.set a (.loop (if jump.isNone then .ready else .done) jump N tm ps asg body)) →
      ∃ v w2, (Instr.endRound pl.blk jump).run P w1 = .ok v w2 ∧ ∃ ι'' ψ'' out S'', Ext (ι.take n0) ψ ι'' ψ'' ∧ Rel w0 ι'' ψ'' S'' w2 ∧ OutR ι'' ψ'' out (.returned v) ∧ R out S'' := by
    intro jump st pend N tm ps asg body hS hR
    obtain ⟨q0, ⟨fn, vs, d, q1, q2, q3⟩, q4, q5⟩ := h2.blk a _ p' hS hp'
    rw [← hb]
    refine ⟨_, _, run_endRound jump q1, ι', ψ', .ret (.bool jump.isNone), _, h1, ?_, .bool _, hR⟩
    refine h2.putBlk hS hp' rfl rfl q4 (by intro es e; cases e) ?_
    exact ⟨q0, ⟨fn, vs, d, World.putObj_heap_same (lt_of_heap q1), q2, q3⟩, q4, q5⟩
  cases x with
  | normal =>
    cases e <;> simp only [XR] at h4
    obtain ⟨st, pend, N, tm, ps, asg, body, k1, k2⟩ := h5
    exact fin none st pend N tm ps asg body k1 k2
  | ret =>
    cases e <;> simp only [XR] at h4
    obtain ⟨st, pend, N, tm, ps, asg, body, k1, k2⟩ := h5
    exact fin (some .ret) st pend N tm ps asg body k1 k2
  | exit id =>
    cases e <;> simp only [XR] at h4
    subst h4
    obtain ⟨st, pend, N, tm, ps, asg, body, k1, k2⟩ := h5
    exact fin (some (.exit id)) st pend N tm ps asg body k1 k2
  | goto l => exact h5.elim
  | panic v => exact h5.elim
section
variable {n0 N : Nat} {r : Option Nat} {Q : APost} {k : List TI} {env : Env}
theorem x_yieldA {all : Array Oper} {o : Oper} {l : List Oper} {fop : Operand} {args : Array Operand} {tys : Array TypeId} {a : Nat}
    (hg : guardA all env o = some true) (ho : o.op = .call ⟨.value fop, args, tys⟩) (hf : evalA w0 env fop = .yld a) (hd : dstOk N o.dst = true)
    (h : YA P w0 a (args.toList.map (evalA w0 env)) S (afterCall P w0 n0 N r all l k Q env o.dst)) :
    RunX P w0 n0 N r (.it (.ops all (o :: l)) :: k) Q .normal env S := by
  intro ι ψ w ac hR hE
  have hw := guardA_sound hE hg
  refine wpListIn_do hw (fun c hc => by rw [hc] at ho; cases ho) ?_
  obtain ⟨pend, N', tm, ps, asg, body, h1, h2, h3, h4, h5, h6⟩ := h
  have hvf := hE.eval hR fop
  rw [hf] at hvf
  generalize hcf : ac.eval fop = cf at hvf
  cases hvf with
  | yld _ pl hpl =>
    obtain ⟨q0, ⟨fn, vs, d, q1, q2, q3⟩, q4, q5⟩ := hR.blk a _ pl h1 hpl
    have hsz : (args.map ac.eval).size = ps.size := by rw [h2]; simp
    have hres : (execOp ac.eval o).run P w = .ok (.round pl.blk fn ((ps.zip (args.map ac.eval)).foldl (fun tmps (t, a) => tmps.setIfInBounds t a) vs) asg body) w := by
      have hy := run_yield (P := P) (args := args.map ac.eval) q1 hsz
      simp only [execOp, ho, resolve, hcf, Deferred.ofValue, invoke, Sem.run_bind, Sem.run_pure, Result.andThen_ok, Array.empty_append]
      first
      | exact hy
      | simpa using hy
    rw [hres]
    refine ⟨fun h => depth_FR r h, ?_⟩
    have ha : a < S.length := (List.getElem?_eq_some_iff.1 h1).1
    have hE0 : EnvR ι ψ N' (setP (envT tm) (ps.toList.zip (args.toList.map (evalA w0 env)))) { tmps := (ps.zip (args.map ac.eval)).foldl (fun tmps (t, a) => tmps.setIfInBounds t a) vs, defers := [] } := by
      have := setP_R (ι := ι) (ψ := ψ) ps.toList (args.toList.map (evalA w0 env)) (args.map ac.eval).toList (envT tm) vs (envT_R q2 h3 h4 q3) (by simpa using h2) (by simp) h5 (fun j x c hx hc => by
        simp only [List.getElem?_map, Option.map_eq_some_iff, Array.toList_map] at hx hc
        obtain ⟨y, hy, rfl⟩ := hx
        obtain ⟨z, hz, rfl⟩ := hc
        rw [hy] at hz; cases hz
        exact hE.eval hR y)
      rw [← Array.foldl_toList, Array.toList_zip]
      exact this
    have key : RoundIn (FR r) (0 - 1) P pl.blk fn ((ps.zip (args.map ac.eval)).foldl (fun tmps (t, a) => tmps.setIfInBounds t a) vs) asg body w
        (fun e2 w2 => ∃ ι' ψ' out S', Ext (ι.take S.length) ψ ι' ψ' ∧ Rel w0 ι' ψ' S' w2 ∧ OutR ι' ψ' out e2 ∧ afterCall P w0 n0 N r all l k Q env o.dst out S') := by
      refine roundIn_of_wpIn trivial ?_
      have hF : (FR r).inRound pl.blk = FR (some pl.blk) := rfl
      rw [hF]
      refine wpIn_mono ((h6 pl.blk) ι ψ w _ hR hE0) fun e a1 w1 hp => ?_
      obtain ⟨ι1, ψ1, x1, env1, S1, e1, e2, e3, e4, rfl, pend', e5, e6⟩ := hp
      cases e <;> simp only [XR] at e4
      obtain ⟨p1, hp1, hb1, _⟩ := e1.pl a pl (by rw [List.getElem?_take, if_pos ha]; exact hpl)
      obtain ⟨r0, ⟨fn', vs', d', r1, r2, r3⟩, r4, r5⟩ := e2.blk a _ p1 e5 hp1
      rw [← hb1]
      refine ⟨_, run_beginRound r1 rfl, ?_⟩
      have hR2 : Rel w0 ι1 ψ1 (S1.set a (.loop .busy pend' N' tm ps asg body)) (w1.putObj p1.blk (.loop { state := .busy, pending := pend', fn := fn', tmps := vs', params := ps, assign := asg, body, defers := d' })) :=
        e2.putBlk e5 hp1 rfl rfl r4 (by intro es e; cases e) ⟨r0, ⟨fn', vs', d', World.putObj_heap_same (lt_of_heap r1), r2, r3⟩, r4, r5⟩
      have hrun := e6 ι1 ψ1 _ a1 hR2 e3
      rw [hb1] at hrun ⊢
      refine wpIn_mono hrun fun ex a2 w2 hp2 => ?_
      have := rpost_sound (P := P) hp1 ha hp2
      rw [hb1] at this
      cases ex with
      | normal => obtain ⟨v, w3, s1, ι3, ψ3, out, S3, s2, s3⟩ := this; exact ⟨v, w3, s1, ι3, ψ3, out, S3, e1.chain s2, s3⟩
      | ret => obtain ⟨v, w3, s1, ι3, ψ3, out, S3, s2, s3⟩ := this; exact ⟨v, w3, s1, ι3, ψ3, out, S3, e1.chain s2, s3⟩
      | exit id => obtain ⟨v, w3, s1, ι3, ψ3, out, S3, s2, s3⟩ := this; exact ⟨v, w3, s1, ι3, ψ3, out, S3, e1.chain s2, s3⟩
      | goto l => obtain ⟨v, w3, s1, ι3, ψ3, out, S3, s2, s3⟩ := this; exact ⟨v, w3, s1, ι3, ψ3, out, S3, e1.chain s2, s3⟩
      | panic ch => exact this
      | outgrown => exact this
    refine key.mono ?_
    rintro e w' ⟨ι', ψ', out, S', e1, e2, e3, e4⟩
    have hx : Ext ι ψ ι' ψ' := by rw [← hR.len, List.take_length] at e1; exact e1
    cases out with
    | ret v =>
      cases e <;> simp only [OutR] at e3
      exact KI.mono (it := .ops all l) (e4 ι' ψ' w' _ e2 ((hE.mono hx).putA e3 hd)) fun e a2 w2 hp => hp.chain (hx.take n0)
    | panic v =>
      cases e <;> simp only [OutR] at e3
      exact ⟨ι', ψ', .panic v, env, S', hx.take n0, e2, hE.mono hx, e3, e4⟩
def afterRange (P : Program) (w0 : World) (n0 N : Nat) (m : Nat) (k : List TI) (Q : APost) (env : Env) : AOut → List Blk → Prop
  | .ret _, S => ∃ st pend N' tm ps asg body, S[m]? = some (.loop st pend N' tm ps asg body) ∧ (st == .busy) = false ∧
      (match pend with
       | none => RunX P w0 n0 N none k Q .normal env (S.set m (.loop .exhausted pend N' tm ps asg body))
       | some c => RunX P w0 n0 N none (.it (.code c) :: k) Q .normal env (S.set m (.loop .exhausted pend N' tm ps asg body)))
  | .panic v, S => RunX P w0 n0 N none k Q (.panic v) env S
theorem x_rangeFunc {g : Operand} {ps : Array Tmp} {asg body : Code} {f : FuncId} {first cap ds : List AV} (keep : List Nat) (hf : evalA w0 env g = .fn (.func f) first cap) (hds : env DS = .dfr ds)
    (hk : keep.all (fun t => decide (t < N)) = true)
    (h : ACall P w0 f (first ++ [.yld (S.length + 1)] ++ cap) (S ++ [.obj (.deferred (some [])), .loop .ready none N (keep.map fun t => (t, env t)) ps asg body])
      (afterRange P w0 n0 N (S.length + 1) k Q (upd env DS (.dfr (.own S.length 0 :: ds))))) :
    RunX P w0 n0 N none (.it (.code (.rangeFunc g ps asg body)) :: k) Q .normal env S := by
  intro ι ψ w a hR hE
  refine wpIn_rangeFunc fun fn _ => ?_
  let B := w.heap.size
  have hlen := hR.len
  obtain ⟨ds', dvs, d1, d2, d3, d4⟩ := hE.defers
  rw [hds] at d1; cases d1
  have hR1 : Rel w0 (ι ++ [⟨B, 0, undef, 0⟩]) ψ (S ++ [.obj (.deferred (some []))]) (w.alloc (.deferred (some []))) :=
    hR.newBlk _ _ (fun _ => rfl) ⟨hR.n0, World.alloc_heap_new w _, (fun e => by cases e), fun k => hR.psi_new (Nat.le_refl _) k, hR.psim_new (Nat.le_refl _)⟩
  have hB1 : (w.alloc (.deferred (some []))).heap.size = B + 1 := by simp [B]
  have hx1 := Ext.push ι ψ ⟨B, 0, undef, 0⟩
  have hx2 := Ext.push (ι ++ [⟨B, 0, undef, 0⟩]) ψ ⟨B + 1, 0, undef, 0⟩
  have hR2 : Rel w0 (ι ++ [⟨B, 0, undef, 0⟩] ++ [⟨B + 1, 0, undef, 0⟩]) ψ (S ++ [.obj (.deferred (some []))] ++ [.loop .ready none N (keep.map fun t => (t, env t)) ps asg body])
      ((w.alloc (.deferred (some []))).alloc (.loop { state := .ready, pending := none, fn, tmps := a.tmps, params := ps, assign := asg, body, defers := B })) := by
    have := hR1.newBlk (.loop { state := .ready, pending := none, fn, tmps := a.tmps, params := ps, assign := asg, body, defers := B }) (.loop .ready none N (keep.map fun t => (t, env t)) ps asg body) (fun _ => rfl)
      ⟨hR1.n0, ⟨fn, a.tmps, B, World.alloc_heap_new _ _, hE.size, fun p hp => by
        obtain ⟨t, _, rfl⟩ := List.mem_map.1 hp
        exact ((hE.tmp t).mono hx1).mono (by rw [← hB1] at hx2; exact hx2)⟩, fun k => hR1.psi_new (Nat.le_refl _) k, hR1.psim_new (Nat.le_refl _)⟩
    rw [hB1] at this
    exact this
  have hx12 := hx1.trans hx2
  have hSS : S ++ [.obj (.deferred (some []))] ++ [.loop .ready none N (keep.map fun t => (t, env t)) ps asg body] = S ++ [.obj (.deferred (some [])), .loop .ready none N (keep.map fun t => (t, env t)) ps asg body] := by simp
  rw [hSS] at hR2
  have hvf := hE.eval hR g
  rw [hf] at hvf
  generalize hcf : a.eval g = cf at hvf
  cases hvf with
  | fn _ _ _ vf vc hl1 hl2 h1 h2 =>
    refine ⟨B + 1, [{ target := .collected B, args := #[] }], _, { target := .fn (.func f) vc, args := vf ++ #[.func (.yield (B + 1)) #[] #[]] }, ((w.alloc (.deferred (some []))).alloc (.loop { state := .ready, pending := none, fn, tmps := a.tmps, params := ps, assign := asg, body, defers := B })), f, vf ++ #[.func (.yield (B + 1)) #[] #[]] ++ vc, ((w.alloc (.deferred (some []))).alloc (.loop { state := .ready, pending := none, fn, tmps := a.tmps, params := ps, assign := asg, body, defers := B })), run_enterLoop_outer fn a.tmps ps asg body, ?_, fun _ _ => trivial, ?_, fun h => by simp [FR, Fence.wide] at h, ?_⟩
    · have hargs : (#[Operand.const (.func (.yield (B + 1)) #[] #[])] : Array Operand).map a.eval = #[.func (.yield (B + 1)) #[] #[]] := by simp [Act.eval]
      simp only [resolve, hcf, hargs, Deferred.ofValue, Sem.run_pure]
      rfl
    · simp only [invoke]; exact h.1 _ _
    · have hcall := h.2 _ ψ _ (vf ++ #[.func (.yield (B + 1)) #[] #[]] ++ vc) hR2 (by simp [hl1, hl2]; omega) (fun j x c hx hc => by
        have hc' : (vf.toList ++ [Value.func (.yield (B + 1)) #[] #[]] ++ vc.toList)[j]? = some c := by
          rw [← Array.getElem?_toList] at hc
          simpa using hc
        by_cases hj1 : j < first.length
        · rw [List.append_assoc, List.getElem?_append_left hj1] at hx
          rw [List.append_assoc, List.getElem?_append_left (by simp; omega)] at hc'
          exact (h1 j x c hx (by simpa using hc')).mono hx12
        · by_cases hj2 : j = first.length
          · subst hj2
            simp at hx
            rw [hl1] at hc'
            simp at hc'
            subst hx; subst hc'
            exact .yld _ ⟨B + 1, 0, undef, 0⟩ (by rw [← hlen]; simp)
          · rw [List.getElem?_append_right (by simp; omega)] at hx
            rw [List.getElem?_append_right (by simp; omega)] at hc'
            simp only [List.length_append, List.length_cons, List.length_nil, Array.length_toList, ← hl1] at hx hc'
            exact (h2 _ x c hx (by simpa using hc')).mono hx12)
      refine callsIn_FR (r := none) (hcall.mono ?_)
      rintro e w3 ⟨ι', ψ', out, S', e1, e2, e3, e4⟩
      have hxx := hx12.trans e1
      have hE' : EnvR ι' ψ' N (upd env DS (.dfr (.own S.length 0 :: ds))) { a with defers := [{ target := .collected B, args := #[] }] ++ a.defers } := by
        obtain ⟨p', hp', hb', _⟩ := e1.pl S.length ⟨B, 0, undef, 0⟩ (by rw [← hlen]; simp)
        refine ⟨hE.size, hE.bound, ⟨.own S.length 0 :: ds, .pointer (some ⟨B, 0, none⟩) :: dvs, by simp [upd], by simp [d2], fun j x v hx hv => ?_, ?_⟩, fun t => ?_⟩
        · cases j with
          | zero =>
            simp at hx hv; subst hx; subst hv
            have : B = p'.blk := hb'.symm
            rw [this]
            exact .own _ _ p' hp'
          | succ j => exact (d3 j x v (by simpa using hx) (by simpa using hv)).mono hxx
        · simp [d4, toDef]
        · simp only [upd]
          split
          · next ht =>
            have : a.tmps.getD t undef = undef := by
              rw [Array.getD_eq_getD_getElem?, Array.getElem?_eq_none (by rw [hE.size, ht]; exact hE.bound)]; rfl
            show VR _ _ _ (a.tmps.getD t undef)
            rw [this]
            refine .dfr _ (.pointer (some ⟨B, 0, none⟩) :: dvs) (by simp [d2]) fun j x v hx hv => ?_
            cases j with
            | zero =>
              simp at hx hv; subst hx; subst hv
              have : B = p'.blk := hb'.symm
              rw [this]
              exact .own _ _ p' hp'
            | succ j => exact (d3 j x v (by simpa using hx) (by simpa using hv)).mono hxx
          · exact (hE.tmp t).mono hxx
      cases out with
      | ret v =>
        cases e <;> simp only [OutR] at e3
        obtain ⟨st, pend, N', tm, ps', asg', body', k1, k2, k3⟩ := e4
        obtain ⟨p', hp', hb', _⟩ := e1.pl (S.length + 1) ⟨B + 1, 0, undef, 0⟩ (by rw [← hlen]; simp)
        obtain ⟨q0, ⟨fn', vs', d', q1, q2, q3⟩, q4, q5⟩ := e2.blk _ _ p' k1 hp'
        have hbl : p'.blk = B + 1 := hb'
        have hne : st ≠ .busy := fun e => by subst e; exact absurd k2 (by decide)
        have hend := run_endLoop (P := P) q1 hne
        rw [hbl] at hend
        refine ⟨pend, _, hend, ?_⟩
        have hR3 : Rel w0 ι' ψ' (S'.set (S.length + 1) (.loop .exhausted pend N' tm ps' asg' body')) (w3.putObj p'.blk (.loop { state := .exhausted, pending := pend, fn := fn', tmps := vs', params := ps', assign := asg', body := body', defers := d' })) :=
          e2.putBlk k1 hp' rfl rfl q4 (by intro es e; cases e) ⟨q0, ⟨fn', vs', d', World.putObj_heap_same (lt_of_heap q1), q2, q3⟩, q4, q5⟩
        rw [hbl] at hR3
        cases pend with
        | none => exact ⟨ι', ψ', .normal, _, _, hxx.take n0, hR3, hE', trivial, k3⟩
        | some c => exact wpIn_mono (k3 ι' ψ' _ _ hR3 hE') fun e a2 w2 hp => hp.chain (hxx.take n0)
      | panic v =>
        cases e <;> simp only [OutR] at e3
        exact ⟨ι', ψ', .panic v, _, S', hxx.take n0, e2, hE', e3, e4⟩
end
end Go.Fen
namespace Go.Fen
open Go.RowKit
variable {P : Program} {w0 w w' : World} {ι : List Pl} {ψ : Psi} {S : List Blk}
theorem filter_ne {α β : Type} [BEq β] [LawfulBEq β] (f : α → β) : ∀ (l : List α) (j : Nat) (x : α), (l.map f).Nodup → l[j]? = some x → l.filter (fun y => !(f y == f x)) = l.eraseIdx j
  | [], j, x, _, h => by simp at h
  | y :: l, 0, x, hn, h => by
    simp at h; subst h
    rw [List.map_cons, List.nodup_cons] at hn
    simp only [List.filter_cons, beq_self_eq_true, Bool.not_true, Bool.false_eq_true, if_false, List.eraseIdx_cons_zero]
    rw [List.filter_eq_self]
    intro z hz
    have : f z ≠ f y := fun e => hn.1 (e ▸ List.mem_map_of_mem hz)
    simpa using this
  | y :: l, j + 1, x, hn, h => by
    rw [List.map_cons, List.nodup_cons] at hn
    have hx : l[j]? = some x := by simpa using h
    have hne : f y ≠ f x := fun e => hn.1 (e ▸ List.mem_map_of_mem (List.mem_of_getElem? hx))
    have hne' : (f y == f x) = false := by simpa using hne
    simp only [List.filter_cons, hne', Bool.not_false, if_true, List.eraseIdx_cons_succ]
    rw [filter_ne f l j x hn.2 hx]
theorem perm_erase {α : Type} : ∀ (l : List α) (j : Nat) (x : α), l[j]? = some x → l.Perm (x :: l.eraseIdx j)
  | [], j, x, h => by simp at h
  | y :: l, 0, x, h => by simp at h; subst h; simp
  | y :: l, j + 1, x, h => by
    have := perm_erase l j x (by simpa using h)
    rw [List.eraseIdx_cons_succ]
    exact (this.cons y).trans (List.Perm.swap x y _)
theorem find_born : ∀ (l : List MapEntry) (m : MapEntry), (l.map (·.born)).Nodup → m ∈ l → l.find? (fun e => e.born == m.born) = some m
  | [], m, _, h => by simp at h
  | x :: l, m, hn, h => by
    rw [List.map_cons, List.nodup_cons] at hn
    rcases List.mem_cons.1 h with rfl | h
    · simp
    · have hne : x.born ≠ m.born := fun e => hn.1 (e ▸ List.mem_map_of_mem h)
      rw [List.find?_cons_of_neg (by simpa using hne)]
      exact find_born l m hn.2 h
theorem choose_next (n : Nat) (hn : 0 < n) (w : World) : ∃ j w1, j < n ∧ (w1 = w ∨ w1 = w.drew) ∧ (choose (.mapNext n)).run P w = .ok j w1 := by
  rw [run_choose_drew]
  by_cases h : n ≤ 1
  · exact ⟨0, w, hn, .inl rfl, by simp [Question.forced, h]⟩
  · exact ⟨(w.tape w.drawn (.mapNext n)) % n, w.drew, Nat.mod_lt _ hn, .inr rfl, by simp [Question.forced, h, Question.cut]⟩
section
variable {n0 N : Nat} {r : Option Nat} {Q : APost} {k : List TI} {env : Env}
theorem x_nextM {all : Array Oper} {o : Oper} {l : List Oper} {it : Operand} {a : Nat} {cur : Option (AV × AV)} {rest : List (AV × AV)} (hg : guardA all env o = some true) (ho : o.op = .next it false) (hit : evalA w0 env it = .own a 0)
    (hS : S[a]? = some (.mit cur rest)) (hd : dstOk N o.dst = true)
    (h0 : rest = [] → RunX P w0 n0 N r (.it (.ops all l) :: k) Q .normal (putA env o.dst (.tup [.bool false])) S)
    (h1 : ∀ e rest', rest.Perm (e :: rest') → RunX P w0 n0 N r (.it (.ops all l) :: k) Q .normal (putA env o.dst (.tup [.bool true, e.1, e.2])) (S.set a (.mit (some e) rest'))) :
    RunX P w0 n0 N r (.it (.ops all (o :: l)) :: k) Q .normal env S := by
  intro ι ψ w ac hR hE
  have hw := guardA_sound hE hg
  refine wpListIn_do hw (fun c hc => by rw [hc] at ho; cases ho) ?_
  have hv := hE.eval hR it
  rw [hit] at hv
  generalize hc : ac.eval it = c at hv
  have hres : (execOp ac.eval o).run P w = (do pure (.value (← Instr.next c false o.type)) : Sem Next).run P w := by
    obtain ⟨dst, op, ty, pos, after, guard⟩ := o
    simp only at ho
    subst ho
    simp [execOp, hc]
  rw [hres]
  cases hv with
  | own _ _ pl hpl =>
    obtain ⟨q0, q1, q3, q4⟩ := hR.blk a _ pl hS hpl
    have over : (Instr.next (.pointer (some ⟨pl.blk, 0, none⟩)) false o.type).run P w = .ok (.tuple #[.bool false]) w → rest = [] →
        o.uponIn (FR r) 0 P ac (wpListIn (FR r) 0 P all (Post w0 n0 N ι ψ (RunX P w0 n0 N r k Q)) l) (Post w0 n0 N ι ψ (RunX P w0 n0 N r k Q)) ((do pure (.value (← Instr.next (.pointer (some ⟨pl.blk, 0, none⟩)) false o.type)) : Sem Next).run P w) := by
      intro hn hr
      simp only [Sem.run_bind, hn, Result.andThen_ok, Sem.run_pure]
      exact (h0 hr) ι ψ w _ hR (hE.putA (.tup _ _ rfl fun j x v hx hv => by
        match j with
        | 0 => simp at hx hv; subst hx; subst hv; exact .bool _
        | j + 1 => simp at hx) hd)
    rcases q1 with ⟨k1, k2, k3⟩ | ⟨mb, ck, me, seen, lst, k1, k2, k4, k5, k6⟩
    · exact over (by simp [Instr.next, getObj, Sem.run, k1]) k2
    · obtain ⟨hm, hok⟩ := hR.psim mb me ck k2
      have hb := hok.1
      have hall : ∀ e ∈ me.toList, e.born < ck := hb
      let left := me.filter fun e => !seen.contains e.born
      have hleftL : left.toList = me.toList.filter (fun e => !seen.contains e.born) := by simp [left]
      have hold : left.filter (fun e => decide (e.born < ck)) = left := by
        apply Array.toList_inj.1
        rw [Array.toList_filter, List.filter_eq_self]
        intro e he
        rw [hleftL] at he
        simpa using hall e (List.mem_filter.1 he).1
      have hnew : left.filter (fun e => decide (e.born ≥ ck)) = #[] := by
        apply Array.toList_inj.1
        rw [Array.toList_filter, List.filter_eq_nil_iff]
        intro e he
        rw [hleftL] at he
        have := hall e (List.mem_filter.1 he).1
        simp; omega
      have hun : (!seen.isEmpty && !me.isEmpty && me.all (fun e => decide (e.born ≥ ck))) = false := by
        cases hme : me.isEmpty with
        | true => simp
        | false =>
          have : me.all (fun e => decide (e.born ≥ ck)) = false := by
            rw [Array.isEmpty_eq_false_iff] at hme
            rw [← Array.all_toList, List.all_eq_false]
            have hpos : 0 < me.size := Array.size_pos_iff.2 hme
            refine ⟨me[0], by simp, ?_⟩
            have := hall me[0] (by simp)
            simp; omega
          simp [this]
      have hlen : lst.length = left.size := by rw [k5.1, ← hleftL]; simp
      have hrun : (Instr.next (.pointer (some ⟨pl.blk, 0, none⟩)) false o.type).run P w = (do
          match ((if left.isEmpty then #[none] else #[]) ++ (left ++ #[]).map some)[← choose (.mapNext ((if left.isEmpty then #[none] else #[]) ++ (left ++ #[]).map some).size)]? with
          | some (some e) =>
            setObj pl.blk (.mapIter (some mb) ck (seen.push e.born) ck)
            pure (.tuple #[.bool true, e.key, e.val])
          | some none => pure (.tuple #[.bool false])
          | none => stuck "Next: no such candidate" : Sem Value).run P w := by
        have hg1 : (getObj pl.blk).run P w = .ok (.mapIter (some mb) ck seen ck) w := by simp [getObj, Sem.run, k1]
        have hg2 : (getObj mb).run P w = .ok (.map me ck) w := by simp [getObj, Sem.run, hm]
        simp only [Instr.next, Sem.run_bind, hg1, hg2, Result.andThen_ok, hun, Bool.false_eq_true, if_false, Sem.run_pure]
        rw [show (me.filter fun e => !seen.contains e.born) = left from rfl, hold, hnew]
        rfl
      by_cases hle : left = #[]
      · have hl0 : rest = [] := by
          have : lst = [] := List.eq_nil_of_length_eq_zero (by rw [hlen, hle]; rfl)
          rw [this] at k4; exact List.Perm.eq_nil k4.symm
        refine over ?_ hl0
        rw [hrun, hle]
        simp [run_choose_drew, Question.forced]
      · have hpos : 0 < left.size := Array.size_pos_iff.2 hle
        have hemp : left.isEmpty = false := by rw [Array.isEmpty_eq_false_iff]; exact hle
        have hcand : ((if left.isEmpty then #[none] else #[]) ++ (left ++ #[]).map some : Array (Option MapEntry)) = left.map some := by simp [hemp]
        rw [hcand, Array.size_map] at hrun
        obtain ⟨j, w1, hj, hw1, hch⟩ := choose_next (P := P) left.size hpos w
        have hmj : left[j]? = some left[j] := Array.getElem?_eq_getElem hj
        have hw1h : w1.heap = w.heap := by rcases hw1 with rfl | rfl <;> rfl
        have hR1 : Rel w0 ι ψ S w1 := by
          rcases hw1 with rfl | rfl
          · exact hR
          · exact hR.drew
        have k1' : w1.heap[pl.blk]? = some (.mapIter (some mb) ck seen ck) := by rw [hw1h]; exact k1
        have hset : (setObj pl.blk (.mapIter (some mb) ck (seen.push left[j].born) ck)).run P w1 = .ok () (w1.putObj pl.blk (.mapIter (some mb) ck (seen.push left[j].born) ck)) := by simp [setObj, Sem.run, k1', World.putObj]
        have hrun2 : (Instr.next (.pointer (some ⟨pl.blk, 0, none⟩)) false o.type).run P w = .ok (.tuple #[.bool true, left[j].key, left[j].val]) (w1.putObj pl.blk (.mapIter (some mb) ck (seen.push left[j].born) ck)) := by
          rw [hrun]
          simp only [Sem.run_bind, hch, Result.andThen_ok, Array.getElem?_map, hmj, Option.map_some, hset, Sem.run_pure]
        have hjl : j < lst.length := by rw [hlen]; exact hj
        have hlj : lst[j]? = some lst[j] := List.getElem?_eq_getElem hjl
        have hLj : (me.toList.filter fun e => !seen.contains e.born)[j]? = some left[j] := by rw [← hleftL]; simpa using hmj
        have hv := k5.2 j lst[j] left[j] hlj hLj
        have hmem : left[j] ∈ me.toList := (List.mem_filter.1 (List.mem_of_getElem? hLj)).1
        have hnd : ((me.toList.filter fun e => !seen.contains e.born).map (·.born)).Nodup := hok.2.sublist (List.filter_sublist.map _)
        have hR2 : Rel w0 ι ψ (S.set a (.mit (some lst[j]) (lst.eraseIdx j))) (w1.putObj pl.blk (.mapIter (some mb) ck (seen.push left[j].born) ck)) := by
          refine hR1.putBlk hS hpl rfl rfl q3 (by intro es e; cases e) ⟨q0, .inr ⟨mb, ck, me, seen.push left[j].born, lst.eraseIdx j, World.putObj_heap_same (lt_of_heap k1'), k2, .refl _, ?_, ?_⟩, q3, q4⟩
          · have hf : me.toList.filter (fun e => !(seen.push left[j].born).contains e.born) = (me.toList.filter fun e => !seen.contains e.born).eraseIdx j := by
              rw [← filter_ne (·.born) _ j left[j] hnd hLj, List.filter_filter]
              congr 1
              funext e
              simp only [Array.contains_push, Bool.not_or, Bool.and_comm]
            rw [hf]
            refine ⟨by rw [List.length_eraseIdx_of_lt hjl, List.length_eraseIdx_of_lt (by rw [← k5.1]; exact hjl), k5.1], fun i e m he hm => ?_⟩
            rw [List.getElem?_eraseIdx] at he hm
            split at he
            · next hij => rw [if_pos hij] at hm; exact k5.2 i e m he hm
            · next hij => rw [if_neg hij] at hm; exact k5.2 (i + 1) e m he hm
          · intro e he
            cases he
            refine ⟨left[j].born, left[j], by simp, ?_, hv.1, hv.2⟩
            rw [← Array.find?_toList]
            exact find_born me.toList left[j] hok.2 hmem
        simp only [Sem.run_bind, hrun2, Result.andThen_ok, Sem.run_pure]
        have hp : rest.Perm (lst[j] :: lst.eraseIdx j) := k4.symm.trans (perm_erase lst j _ hlj)
        exact (h1 lst[j] (lst.eraseIdx j) hp) ι ψ _ _ hR2 (hE.putA (.tup _ _ rfl fun i x v hx hv' => by
          match i with
          | 0 => simp at hx hv'; subst hx; subst hv'; exact .bool _
          | 1 => simp at hx hv'; subst hx; subst hv'; exact hv.1
          | 2 => simp at hx hv'; subst hx; subst hv'; exact hv.2
          | i + 3 => simp at hx) hd)
end
end Go.Fen
namespace Go.Fen
open Go.RowKit
variable {P : Program} {w0 w w' : World} {ι : List Pl} {ψ : Psi} {S : List Blk}
section
variable {n0 N : Nat} {r : Option Nat} {Q : APost} {k : List TI} {env : Env}
theorem x_ident {all : Array Oper} {o : Oper} {l : List Oper} {fop x : Operand} {tys : Array TypeId} {f : FuncId} {v : AV} (hg : guardA all env o = some true) (ho : o.op = .call ⟨.value fop, #[x], tys⟩) (hf : evalA w0 env fop = .fn (.func f) [] [])
    (hext : ∀ (c : Value) (w : World), (callFunc f #[c]).run P w = .ok (.value c) w) (hd : dstOk N o.dst = true) (hx : evalA w0 env x = v)
    (h : RunX P w0 n0 N r (.it (.ops all l) :: k) Q .normal (putA env o.dst v) S) : RunX P w0 n0 N r (.it (.ops all (o :: l)) :: k) Q .normal env S := by
  subst hx
  intro ι ψ w a hR hE
  have hw := guardA_sound hE hg
  refine wpListIn_do hw (fun c hc => by rw [hc] at ho; cases ho) ?_
  have hvf := hE.eval hR fop
  rw [hf] at hvf
  generalize hcf : a.eval fop = cf at hvf
  cases hvf with
  | fn _ _ _ vf vc hl1 hl2 h1 h2 =>
    obtain rfl : vf = #[] := Array.eq_empty_of_size_eq_zero hl1.symm
    obtain rfl : vc = #[] := Array.eq_empty_of_size_eq_zero hl2.symm
    have hres : (execOp a.eval o).run P w = .ok (.value (a.eval x)) w := by
      simp [execOp, ho, resolve, hcf, Deferred.ofValue, invoke, hext]
    rw [hres]
    exact h ι ψ w _ hR (hE.putA (hE.eval hR x) hd)
theorem x_mark {i : KI} (a : Nat) {S1 : List Blk} (hS : markFull S a = S1) (h : RunX P w0 n0 N r (.it i :: k) Q .normal env S1) : RunX P w0 n0 N r (.it i :: k) Q .normal env S := by
  subst hS
  intro ι ψ w ac hR hE
  obtain ⟨ψ1, hle, hR1⟩ := markFull_sound hR a
  have hx : Ext ι ψ ι ψ1 := ⟨(Ext.refl ι ψ).pl, hle⟩
  exact KI.mono (h ι ψ1 w ac hR1 (hE.mono hx)) fun e a2 w2 hp => hp.chain (hx.take n0)
end
def cvA : AV → Option Value
  | .int k n => some (.int k n)
  | .bool b => some (.bool b)
  | .str s => some (.string ⟨s.toArray⟩)
  | _ => none
theorem cvA_sound {x : AV} {c v : Value} (hx : VR ι ψ x c) (h : cvA x = some v) : c = v := by
  cases x <;> simp [cvA] at h <;> subst h
  · exact hx.int_inv
  · exact hx.bool_inv
  · exact hx.str_inv
theorem ACall.lib {f : FuncId} {args : List AV} {vs : List Value} {v : AV} {c : Value} {R : AOut → List Blk → Prop} (he : ∀ (a : Array Value) (w : World), (callFunc f a).run P w = .ok (.enter f a) w) (ha : args.map cvA = vs.map some)
    (hv : cvA v = some c) (h : ∀ w, Below w0.heap.size w0 w → Calls P f vs.toArray w fun e w' => e = .returned c ∧ Below w.heap.size w w') (hR : R (.ret v) S) : ACall P w0 f args S R := by
  refine ⟨he, fun ι ψ w cargs hRel hl hargs => ?_⟩
  have hlen : args.length = vs.length := by simpa using congrArg List.length ha
  have : cargs = vs.toArray := by
    apply Array.ext_getElem?
    intro j
    by_cases hj : j < args.length
    · have h1 : args[j]? = some args[j] := List.getElem?_eq_getElem hj
      have h2 : cargs[j]? = some cargs[j] := Array.getElem?_eq_getElem (by omega)
      have h3 : vs[j]? = some vs[j] := List.getElem?_eq_getElem (by omega)
      have h4 := hargs j _ _ h1 h2
      have h5 : (args.map cvA)[j]? = (vs.map some)[j]? := by rw [ha]
      simp only [List.getElem?_map, h1, h3, Option.map_some, Option.some.injEq] at h5
      rw [h2]
      simp only [List.getElem?_toArray, h3]
      rw [cvA_sound h4 h5]
    · rw [Array.getElem?_eq_none (by omega), List.getElem?_toArray, List.getElem?_eq_none (by omega)]
  subst this
  refine (h w hRel.below).mono ?_
  rintro e w' ⟨rfl, hb⟩
  have hb0 : Below w0.heap.size w w' := hb.mono hRel.n0
  refine ⟨ι, ψ, .ret v, S, Ext.refl _ _, hRel.grow hb0 (fun k hk => hb.block k hk) (Psi.le_refl _) (fun _ _ _ e => .inl e) (fun _ _ _ e => .inl e), ?_, hR⟩
  cases v <;> simp [cvA] at hv <;> subst hv
  · exact .int _ _
  · exact .bool _
  · exact .str' _
def runOps (P : Program) (w0 : World) (all : Array Oper) (N : Nat) : List Oper → Env → List Blk → Option (Env × List Blk)
  | [], env, S => some (env, S)
  | o :: l, env, S => match guardA all env o, stepF P S (evalA w0 env) o.op, dstOk N o.dst with
    | some true, some (v, S'), true => runOps P w0 all N l (putA env o.dst v) S'
    | _, _, _ => none
def DRun (P : Program) (w0 : World) (g : FuncId) (args : List AV) (rv : AV) (S : List Blk) (K : List Blk → Prop) : Prop :=
  ∃ (G : Func) (id : Nat) (o0 : Oper) (l : List Oper) (rest : Code) (ty : TypeId) (d : Nat) (env1 : Env) (S1 : List Blk), P.funcs[g]? = some G ∧ (G.name == "runtime.NumGoroutine") = false ∧ G.body = some (.seq (.region id (o0 :: l).toArray false) rest) ∧
    o0.op = .call ⟨.builtin .recover, #[], #[]⟩ ∧ o0.guard = none ∧ o0.type = ty ∧ o0.dst = some d ∧ d < G.ntmps ∧ args.length ≤ G.ntmps ∧ G.ntmps ≤ DS ∧ G.results = #[] ∧
    runOps P w0 (o0 :: l).toArray G.ntmps l (upd (env0 args) d rv) S = some (env1, S1) ∧
    RunX P w0 S.length G.ntmps none [.it (.code rest)] (fun x env S' => (x = .normal ∨ x = .ret) ∧ env DS = .dfr [] ∧ okOuter S.length S S' ∧ K (S'.take S.length)) .normal env1 S1
theorem runOps_sound {all : Array Oper} {N : Nat} {QQ : Exit → Act → List Frame → World → Prop} {cs : List Frame} : ∀ (l : List Oper) (j : Nat) (env env' : Env) (S S' : List Blk) (ι : List Pl) (ψ : Psi) (a : Act) (w : World),
    all.toList.drop j = l → runOps P w0 all N l env S = some (env', S') → Rel w0 ι ψ S w → EnvR ι ψ N env a →
    (∀ ι' ψ' a' w', Ext ι ψ ι' ψ' → Rel w0 ι' ψ' S' w' → EnvR ι' ψ' N env' a' → QQ .normal a' cs w') → wpOpsSIn (FR none) 0 P all QQ (List.range' j l.length) a cs w := by
  intro l
  induction l with
  | nil =>
    intro j env env' S S' ι ψ a w _ h hR hE hk
    simp [runOps] at h
    obtain ⟨rfl, rfl⟩ := h
    exact hk ι ψ a w (Ext.refl _ _) hR hE
  | cons o l ih =>
    intro j env env' S S' ι ψ a w hd h hR hE hk
    have ho : all[j]? = some o := by
      have : (all.toList.drop j)[0]? = some o := by rw [hd]; rfl
      simpa using this
    have hd' : all.toList.drop (j + 1) = l := by
      have := congrArg (List.drop 1) hd
      simpa [List.drop_drop, Nat.add_comm] using this
    simp only [runOps] at h
    split at h
    · next v S1 hg hs hds =>
      simp only [List.length_cons, List.range'_succ, wpOpsSIn, ho]
      refine ⟨fun _ _ => trivial, ?_⟩
      rw [if_pos (guardA_sound hE hg)]
      obtain ⟨ι', ψ', w', nx, cv, h1, h2, h3, h4, h5⟩ := stepF_sound (P := P) hR (fun x => hE.eval hR x) hs
      rw [h1]
      have key : wpOpsSIn (FR none) 0 P all QQ (List.range' (j + 1) l.length) (a.put o.dst cv) cs w' :=
        ih (j + 1) _ env' S1 S' ι' ψ' _ w' hd' h h4 ((hE.mono h3).putA h5 hds) fun ι2 ψ2 a2 w2 e1 e2 e3 => hk ι2 ψ2 a2 w2 (h3.trans e1) e2 e3
      rcases h2 with rfl | ⟨rfl, rfl⟩
      · exact key
      · exact key
    · cases h
inductive MR (ι : List Pl) (ψ : Psi) : AV → FrameMode → FrameMode → Prop
  | ret : MR ι ψ .inil .returning .returning
  | pan (rv : AV) (c : Value) (h : VR ι ψ rv c) : MR ι ψ rv (.panicking [{ v := c, recovered := false }]) (.panicking [{ v := c, recovered := true }])
theorem drun_sound {g : FuncId} {args : List AV} {rv : AV} {K : List Blk → Prop} (h : DRun P w0 g args rv S K) (hR : Rel w0 ι ψ S w) {u u' : FrameMode} (hm : MR ι ψ rv u u') {cargs : Array Value} (hl : args.length = cargs.size)
    (hv : ∀ (j : Nat) (x : AV) (c : Value), args[j]? = some x → cargs[j]? = some c → VR ι ψ x c) :
    (∀ (a : Array Value) (w : World), (callFunc g a).run P w = .ok (.enter g a) w) ∧
    CallsDIn (FR none) 0 P g cargs u w fun e u2 w' => e = .returned (.tuple #[]) ∧ u2 = u' ∧ ∃ ι' ψ' S', Ext ι ψ ι' ψ' ∧ Rel w0 ι' ψ' S' w' ∧ K S' := by
  obtain ⟨G, id, o0, l, rest, ty, d, env1, S1, h1, h2, h3, h4, h5, h6, h7, h8, h9, h10, h11, h12, h13⟩ := h
  refine ⟨fun a w => by simp only [callFunc, Sem.run_bind, run_program, Result.andThen_ok, h1, h2, h3]; rfl, ?_⟩
  refine callsDIn_of_wpSIn h1 h3 trivial fun c₀ cs hu => ?_
  have hE : EnvR ι ψ G.ntmps (env0 args) { tmps := cargs ++ Array.replicate (G.ntmps - cargs.size) undef, defers := [] } := by
    refine ⟨by simp; omega, h10, ⟨[], [], by simp [env0], rfl, by simp, rfl⟩, fun t => ?_⟩
    simp only [env0]
    split
    · next ht =>
      have : (cargs ++ Array.replicate (G.ntmps - cargs.size) undef).getD t undef = undef := by
        rw [Array.getD_eq_getD_getElem?, Array.getElem?_eq_none (by simp; omega)]; rfl
      rw [this]
      exact .dfr [] [] rfl (by simp)
    · by_cases ht : t < args.length
      · have e1 : args[t]? = some args[t] := List.getElem?_eq_getElem ht
        have ht' : t < cargs.size := by omega
        have e2 : cargs[t]? = some cargs[t] := Array.getElem?_eq_getElem ht'
        rw [e1, Array.getD_eq_getD_getElem?, Array.getElem?_append_left ht', e2]
        exact hv t _ _ e1 e2
      · rw [List.getElem?_eq_none (by omega)]
        exact .junk _
  have hfin : ∀ (cs' : List Frame) (rc : Value), VR ι ψ rv rc → cs' = { c₀ with mode := u' } :: cs →
      wpOpsSIn (FR none) 0 P (o0 :: l).toArray (Exit.thenS (rest.wpSIn (FR none) 0 P (bodyPostS P G c₀ cs fun e u2 w' => e = .returned (.tuple #[]) ∧ u2 = u' ∧ ∃ ι' ψ' S', Ext ι ψ ι' ψ' ∧ Rel w0 ι' ψ' S' w' ∧ K S')) (bodyPostS P G c₀ cs fun e u2 w' => e = .returned (.tuple #[]) ∧ u2 = u' ∧ ∃ ι' ψ' S', Ext ι ψ ι' ψ' ∧ Rel w0 ι' ψ' S' w' ∧ K S'))
        (List.range' 1 l.length) (Act.put { tmps := cargs ++ Array.replicate (G.ntmps - cargs.size) undef, defers := [] } (some d) rc) cs' w := by
    intro cs' rc hrc hcs
    subst hcs
    refine runOps_sound l 1 _ env1 S S1 ι ψ _ w (by simp) h12 hR (hE.put hrc h8) fun ι1 ψ1 a1 w1 e1 e2 e3 => ?_
    refine wpSIn_of_wpIn rfl (wpIn_mono (h13 ι1 ψ1 w1 a1 e2 e3) fun e a2 w2 hp => ?_)
    obtain ⟨ι2, ψ2, x, env2, S2, f1, f2, f3, f4, f5, f6, f7, f8⟩ := hp
    obtain ⟨ds, dvs, d1, d2, d3, d4⟩ := f3.defers
    rw [f6] at d1; cases d1
    obtain rfl : dvs = [] := List.length_eq_zero_iff.1 d2.symm
    have hx1 : Ext (ι1.take S.length) ψ1 ι2 ψ2 := f1
    have hx : Ext ι ψ ι2 ψ2 := by
      refine ⟨fun i p hp => ?_, Psi.le_trans e1.psi hx1.psi⟩
      have hi : i < S.length := by rw [← hR.len]; exact (List.getElem?_eq_some_iff.1 hp).1
      obtain ⟨p1, k1, kb1, kg1, ke1⟩ := e1.pl i p hp
      obtain ⟨p2, k2, kb2, kg2, ke2⟩ := hx1.pl i p1 (by rw [List.getElem?_take, if_pos hi]; exact k1)
      refine ⟨p2, k2, kb2.trans kb1, Nat.le_trans kg1 kg2, fun e => ?_⟩
      have : p.gen = p1.gen := by omega
      have : p1.gen = p2.gen := by omega
      rw [ke2 (by omega), ke1 (by omega)]
    obtain ⟨ψ3, k1, k2, k3⟩ := f2.leave S.length (fun j B hj hB => by
      have : B.ltB S.length = true := (f7 j B hj hB).elim (fun e => hR.ltB e) (fun e => e)
      cases B <;> first | exact this | (exact mit_lt this) | trivial)
    have hfinal : ∃ ι' ψ' S', Ext ι ψ ι' ψ' ∧ Rel w0 ι' ψ' S' w2 ∧ K S' := by
      refine ⟨ι2.take S.length, ψ3, _, ⟨fun i p hp => ?_, Psi.le_trans hx.psi k1⟩, k3, f8⟩
      obtain ⟨p', e1, e2⟩ := hx.pl i p hp
      have : i < S.length := by rw [← hR.len]; exact (List.getElem?_eq_some_iff.1 hp).1
      exact ⟨p', by rw [List.getElem?_take, if_pos this]; exact e1, e2⟩
    have hres : (results G a2.tmps).run P w2 = .ok (.tuple #[]) w2 := by
      simp [results, h11]
    have hdef : a2.defers = [] := by rw [d4]; rfl
    rcases f5 with rfl | rfl
    · cases e <;> simp only [XR] at f4
      exact ⟨hdef, u', rfl, _, hres, rfl, rfl, hfinal⟩
    · cases e <;> simp only [XR] at f4
      exact ⟨hdef, u', rfl, _, hres, rfl, rfl, hfinal⟩
  refine wpSIn_seq (wpSIn_region ?_)
  rw [show List.range (o0 :: l).toArray.size = 0 :: List.range' 1 l.length by
    rw [List.range_eq_range']; simp [List.range'_succ]]
  simp only [wpOpsSIn]
  rw [show ((o0 :: l).toArray)[0]? = some o0 by simp]
  refine ⟨fun _ _ => trivial, ?_⟩
  rw [if_pos (by simp [Region.wanted, h5])]
  have hex : ∀ σ : Operand → Value, (execOp σ o0).run P w = .ok .recover w := by
    intro σ
    simp [execOp, h4, resolve, invoke, builtin]
  rw [hex, h7]
  simp only [recoverD, hu]
  cases hm with
  | ret => exact hfin _ _ .inil (by rw [← hu])
  | pan _ c hc => exact hfin _ _ hc rfl
def ResOk (P : Program) (F : Func) (S0 : List Blk) (env : Env) (R : AOut → List Blk → Prop) (S : List Blk) : Prop :=
  ∃ vs, resVs P env S F.results.toList = some vs ∧ okOuter S0.length S0 S ∧ (conv S (fun a => decide (S0.length ≤ a)) 4 (oneOrTup vs)).lt S0.length = true ∧ R (.ret (conv S (fun a => decide (S0.length ≤ a)) 4 (oneOrTup vs))) (S.take S0.length)
def FPostD (P : Program) (w0 : World) (F : Func) (S0 : List Blk) (R : AOut → List Blk → Prop) : APost
  | .normal, env, S | .ret, env, S => ∃ g first cap, env DS = .dfr [.fn (.func g) first cap] ∧ DRun P w0 g (first ++ cap) .inil S (ResOk P F S0 env R)
  | .panic v, env, S => ∃ g first cap, env DS = .dfr [.fn (.func g) first cap] ∧ DRun P w0 g (first ++ cap) v S (ResOk P F S0 env R)
  | _, _, _ => False
theorem enterD {f : FuncId} {F : Func} {c : Code} {args : List AV} {R : AOut → List Blk → Prop} (hf : P.funcs[f]? = some F) (hb : F.body = some c) (hname : (F.name == "runtime.NumGoroutine") = false) (hargs : args.length ≤ F.ntmps) (hbd : F.ntmps ≤ DS)
    (h0 : OuterOk S → RunX P w0 S.length F.ntmps none [.it (.code c)] (FPostD P w0 F S R) .normal (env0 args) S) : ACall P w0 f args S R := by
  refine ⟨fun a w => by simp only [callFunc, Sem.run_bind, run_program, Result.andThen_ok, hf, hname, hb]; rfl, fun ι ψ w cargs hR hl hv => ?_⟩
  have h := h0 fun j B hB => hR.ltB hB
  refine (callsIn_wide (n := 0)).1 ?_
  refine callsIn_of_wp_marks (F := Fence.wide) hf hb trivial ?_
  have hE : EnvR ι ψ F.ntmps (env0 args) { tmps := cargs ++ Array.replicate (F.ntmps - cargs.size) undef, defers := [] } := by
    refine ⟨by simp; omega, hbd, ⟨[], [], by simp [env0], rfl, by simp, rfl⟩, fun t => ?_⟩
    simp only [env0]
    split
    · next ht =>
      have : (cargs ++ Array.replicate (F.ntmps - cargs.size) undef).getD t undef = undef := by
        rw [Array.getD_eq_getD_getElem?, Array.getElem?_eq_none (by simp; omega)]; rfl
      rw [this]
      exact .dfr [] [] rfl (by simp)
    · by_cases ht : t < args.length
      · have e1 : args[t]? = some args[t] := List.getElem?_eq_getElem ht
        have ht' : t < cargs.size := by omega
        have e2 : cargs[t]? = some cargs[t] := Array.getElem?_eq_getElem ht'
        rw [e1, Array.getD_eq_getD_getElem?, Array.getElem?_append_left ht', e2]
        exact hv t _ _ e1 e2
      · rw [List.getElem?_eq_none (by omega)]
        exact .junk _
  refine wpIn_mono (h ι ψ w _ hR hE) fun e a' w' hp => ?_
  obtain ⟨ι', ψ', x, env, S', h1, h2, h3, h4, h5⟩ := hp
  have hext : Ext ι ψ ι' ψ' := by rw [← hR.len, List.take_length] at h1; exact h1
  obtain ⟨ds, dvs, d1, d2, d3, d4⟩ := h3.defers
  have go : ∀ (u u' : FrameMode) (rv : AV) (g : FuncId) (first cap : List AV), u ≠ .run → MR ι' ψ' rv u u' → settle u' = .returning → env DS = .dfr [.fn (.func g) first cap] → DRun P w0 g (first ++ cap) rv S' (ResOk P F S env R) →
      LeavesInM Fence.wide 0 P F a'.tmps (fun e w' => ∃ ι' ψ' out S', Ext ι ψ ι' ψ' ∧ Rel w0 ι' ψ' S' w' ∧ OutR ι' ψ' out e ∧ R out S') a'.defers u w' := by
    intro u u' rv g first cap hu hm hset hds hrun
    rw [hds] at d1; cases d1
    obtain ⟨dv, rfl⟩ : ∃ dv, dvs = [dv] := by
      match dvs, d2 with
      | [dv], _ => exact ⟨dv, rfl⟩
    have hdv := d3 0 _ dv rfl rfl
    cases hdv with
    | fn _ _ _ vf vc hl1 hl2 k1 k2 =>
      rw [d4]
      simp only [List.map_cons, List.map_nil, toDef, LeavesInM]
      obtain ⟨q1, q2⟩ := drun_sound (P := P) hrun h2 hm (cargs := vf ++ vc) (by simp [hl1, hl2]) (fun j x c hx hc => by
        have hc' : (vf.toList ++ vc.toList)[j]? = some c := by
          rw [← Array.getElem?_toList] at hc
          simpa using hc
        by_cases hj : j < first.length
        · rw [List.getElem?_append_left hj] at hx
          rw [List.getElem?_append_left (by simp; omega)] at hc'
          exact k1 j x c hx (by simpa using hc')
        · rw [List.getElem?_append_right (by omega)] at hx
          rw [List.getElem?_append_right (by simp; omega)] at hc'
          simp only [Array.length_toList, ← hl1] at hc'
          exact k2 _ x c hx (by simpa using hc'))
      refine ⟨hu, .inr ⟨fun h => by simp [Fence.wide] at h, .func g, vc, g, vf ++ vc, rfl, by simp only [invoke]; exact q1 _ _, fun _ _ => trivial, ?_⟩⟩
      refine CallsDIn.mono q2 ?_
      rintro e2 u2 w2 ⟨rfl, rfl, ι2, ψ2, S2, e1, e2, vs, r1, r2, r3, r4⟩
      show LeavesInM _ _ _ _ _ _ [] (settle u2) w2
      rw [hset]
      have hE2 := h3.mono e1
      obtain ⟨cs, q1, q2, q3⟩ := resVs_sound (P := P) e2 hE2 _ vs r1
      have hrun : (results F a'.tmps).run P w2 = .ok (if h : cs.toArray.size = 1 then cs.toArray[0] else .tuple cs.toArray) w2 := by
        unfold results
        rw [Array.mapM_eq_mapM_toList]
        simp only [Sem.run_bind, Sem.run_map]
        erw [q1]
        rfl
      have hv : VR ι2 ψ2 (oneOrTup vs) (if h : cs.toArray.size = 1 then cs.toArray[0] else .tuple cs.toArray) := by
        match vs, cs, q2, q3 with
        | [], [], _, _ => exact .tup _ _ rfl (by simp)
        | [v], [c], _, q3 => simpa [oneOrTup] using q3 0 v c rfl rfl
        | v1 :: v2 :: vs, c1 :: c2 :: cs, q2, q3 =>
          simp only [oneOrTup, List.size_toArray, List.length_cons]
          rw [dif_neg (by omega)]
          exact .tup _ _ (by simpa using q2) (fun j x c hx hc => q3 j x c hx (by simpa using hc))
        | [], _ :: _, q2, _ => simp at q2
        | [_], [], q2, _ => simp at q2
        | [_], _ :: _ :: _, q2, _ => simp at q2
        | _ :: _ :: _, [], q2, _ => simp at q2
        | _ :: _ :: _, [_], q2, _ => simp at q2
      obtain ⟨ψ3, k1, k2, k3⟩ := e2.leave S.length (fun j B hj hB => by
        have : B.ltB S.length = true := (r2 j B hj hB).elim (fun e => hR.ltB e) id
        cases B <;> first | exact this | (exact mit_lt this) | trivial)
      have hx2 := hext.trans e1
      refine ⟨_, hrun, ι2.take S.length, ψ3, .ret _, _, ⟨fun i p hp => ?_, Psi.le_trans hx2.psi k1⟩, k3, (conv_sound e2 k1 k2 4 _ _ hv).take r3, r4⟩
      obtain ⟨p', e1, e2⟩ := hx2.pl i p hp
      have : i < S.length := by rw [← hR.len]; exact (List.getElem?_eq_some_iff.1 hp).1
      exact ⟨p', by rw [List.getElem?_take, if_pos this]; exact e1, e2⟩
  cases x with
  | normal =>
    cases e <;> simp only [XR] at h4
    obtain ⟨g, first, cap, hds, hrun⟩ := h5
    exact go .returning .returning .inil g first cap (by simp) .ret rfl hds hrun
  | ret =>
    cases e <;> simp only [XR] at h4
    obtain ⟨g, first, cap, hds, hrun⟩ := h5
    exact go .returning .returning .inil g first cap (by simp) .ret rfl hds hrun
  | exit id => exact h5.elim
  | goto l => exact h5.elim
  | panic v =>
    cases e <;> simp only [XR] at h4
    obtain ⟨c, rfl, hv⟩ := h4
    obtain ⟨g, first, cap, hds, hrun⟩ := h5
    exact go (.panicking [{ v := c, recovered := false }]) (.panicking [{ v := c, recovered := true }]) v g first cap (by simp) (.pan v c hv) rfl hds hrun
section
variable {n0 N : Nat} {Q : APost} {k : List TI} {env : Env}
theorem x_defer {all : Array Oper} {o : Oper} {l : List Oper} {fop : Operand} {tys : Array TypeId} {g : FuncId} {first cap ds : List AV} (hg : guardA all env o = some true) (ho : o.op = .defer ⟨.value fop, #[], tys⟩)
    (hf : evalA w0 env fop = .fn (.func g) first cap) (hds : env DS = .dfr ds) (hd : dstOk N o.dst = true)
    (h : RunX P w0 n0 N none (.it (.ops all l) :: k) Q .normal (putA (upd env DS (.dfr (.fn (.func g) first cap :: ds))) o.dst (.tup [])) S) : RunX P w0 n0 N none (.it (.ops all (o :: l)) :: k) Q .normal env S := by
  intro ι ψ w a hR hE
  have hw := guardA_sound hE hg
  obtain ⟨ds', dvs, d1, d2, d3, d4⟩ := hE.defers
  rw [hds] at d1; cases d1
  have hvf := hE.eval hR fop
  rw [hf] at hvf
  generalize hcf : a.eval fop = cf at hvf
  have hvf0 := hvf
  cases hvf with
  | fn _ _ _ vf vc hl1 hl2 h1 h2 =>
    have hres : (o.semAt (FR none).round a.eval).run P w = .ok (.defer { target := .fn (.func g) vc, args := vf }) w := by
      have hr : (FR none).round = none := rfl
      rw [hr, Oper.semAt_none]
      simp [execOp, ho, resolve, hcf, Deferred.ofValue]
    show wpListIn (FR none) 0 P all _ (o :: l) a w
    unfold wpListIn
    rw [if_pos hw]
    refine ⟨fun _ _ => trivial, ?_⟩
    show Oper.uponIn _ _ _ _ _ _ _ _
    rw [hres]
    have hdf : ∀ v, v = AV.dfr (.fn (.func g) first cap :: ds) → VR ι ψ v undef := by
      rintro v rfl
      refine .dfr _ (.func (.func g) vf vc :: dvs) (by simp [d2]) fun j x v hx hv => ?_
      cases j with
      | zero => simp at hx hv; subst hx; subst hv; exact hvf0
      | succ j => exact d3 j x v (by simpa using hx) (by simpa using hv)
    have hE' : EnvR ι ψ N (upd env DS (.dfr (.fn (.func g) first cap :: ds))) { a with defers := { target := .fn (.func g) vc, args := vf } :: a.defers } := by
      refine ⟨hE.size, hE.bound, ⟨.fn (.func g) first cap :: ds, .func (.func g) vf vc :: dvs, by simp [upd], by simp [d2], fun j x v hx hv => ?_, by simp [d4, toDef]⟩, fun t => ?_⟩
      · cases j with
        | zero => simp at hx hv; subst hx; subst hv; exact hvf0
        | succ j => exact d3 j x v (by simpa using hx) (by simpa using hv)
      · simp only [upd]
        split
        · next ht =>
          have : a.tmps.getD t undef = undef := by
            rw [Array.getD_eq_getD_getElem?, Array.getElem?_eq_none (by rw [hE.size, ht]; exact hE.bound)]; rfl
          show VR _ _ _ (a.tmps.getD t undef)
          rw [this]
          exact hdf _ rfl
        · exact hE.tmp t
    exact h ι ψ w _ hR (hE'.putA (.tup _ _ rfl (by simp)) hd)
end
end Go.Fen
namespace Go.Fen
open Go.RowKit
variable {P : Program} {w0 w w' : World} {ι : List Pl} {ψ : Psi} {S : List Blk}
theorem OuterOk.app {S0 L : List Blk} (h : OuterOk S0) (hL : L.all (fun B => B.ltB (S0.length + L.length)) = true) : OuterOk (S0 ++ L) := by
  intro j B hB
  rw [List.length_append]
  by_cases hj : j < S0.length
  · rw [List.getElem?_append_left hj] at hB
    exact Blk.ltB_mono (by omega) (h j B hB)
  · rw [List.getElem?_append_right (by omega)] at hB
    exact List.all_eq_true.1 hL B (List.mem_of_getElem? hB)
theorem OuterOk.set {S0 : List Blk} {a : Nat} {B : Blk} (h : OuterOk S0) (hB : B.ltB S0.length = true) : OuterOk (S0.set a B) := by
  intro j C hC
  rw [List.length_set]
  by_cases hj : j = a
  · subst hj
    by_cases hl : j < S0.length
    · simp [hl] at hC; subst hC; exact hB
    · rw [List.getElem?_eq_none (by simp; omega)] at hC; cases hC
  · rw [List.getElem?_set_ne (fun e => hj e.symm)] at hC
    exact h j C hC
theorem okOuter_of {S0 S2 L : List Blk} (hO : OuterOk S2) (hl : S2.length = S0.length) : okOuter S0.length S0 (S2 ++ L) := by
  intro j B hj hB
  rw [List.getElem?_append_left (by omega)] at hB
  have := hO j B hB
  rw [hl] at this
  exact .inr this
theorem f_retO {F : Func} {S0 S S2 L : List Blk} {R : AOut → List Blk → Prop} {ms vs : List AV} {env : Env} {v : AV} (h0 : env DS = .dfr ms) (h01 : leaveM ms S = some (S2 ++ L)) (hl : S2.length = S0.length) (hO : OuterOk S2) (h1 : resVs P env (S2 ++ L) F.results.toList = some vs)
    (h3 : conv (S2 ++ L) (fun a => decide (S2.length ≤ a)) 4 (oneOrTup vs) = v) (h4 : v.lt S2.length = true) (h : R (.ret v) S2) : FPost P F S0 R .ret env S := by
  subst h3
  refine ⟨ms, S2 ++ L, vs, h0, h01, h1, okOuter_of hO hl, ?_, ?_⟩
  · rw [← hl]; exact h4
  · rw [← hl, List.take_left]; exact h
theorem f_endO {F : Func} {S0 S S2 L : List Blk} {R : AOut → List Blk → Prop} {ms vs : List AV} {env : Env} {v : AV} (h0 : env DS = .dfr ms) (h01 : leaveM ms S = some (S2 ++ L)) (hl : S2.length = S0.length) (hO : OuterOk S2) (h1 : resVs P env (S2 ++ L) F.results.toList = some vs)
    (h3 : conv (S2 ++ L) (fun a => decide (S2.length ≤ a)) 4 (oneOrTup vs) = v) (h4 : v.lt S2.length = true) (h : R (.ret v) S2) : FPost P F S0 R .normal env S := f_retO (F := F) h0 h01 hl hO h1 h3 h4 h
theorem x_keepO {n0 N : Nat} {r : Option Nat} {Q : APost} {k : List TI} {env : Env} {i : KI} {S0 L : List Blk} (hO : OuterOk S0) (m : Nat) (sl : List Nat) (hn : n0 = S0.length) (hds : (env DS).lt (S0.length + m) = true) (hsl : sl.all (fun t => (env t).lt (S0.length + m)) = true) (hL : (L.take m).all (fun B => B.ltB (S0.length + m)) = true)
    (h : RunX P w0 n0 N r (.it i :: k) Q .normal (keepEnv sl env) (S0 ++ L.take m)) : RunX P w0 n0 N r (.it i :: k) Q .normal env (S0 ++ L) := x_keep hO m sl hn hds hsl hL h
theorem x_yield {n0 N : Nat} {r : Option Nat} {Q : APost} {k : List TI} {env : Env} {all : Array Oper} {o : Oper} {l : List Oper} {fop : Operand} {args : Array Operand} {tys : Array TypeId} {a : Nat} {A : List AV}
    (hg : guardA all env o = some true) (ho : o.op = .call ⟨.value fop, args, tys⟩) (hf : evalA w0 env fop = .yld a) (hd : dstOk N o.dst = true) (hA : args.toList.map (evalA w0 env) = A)
    (h : YA P w0 a A S (afterCall P w0 n0 N r all l k Q env o.dst)) :
    RunX P w0 n0 N r (.it (.ops all (o :: l)) :: k) Q .normal env S := by
  subst hA
  exact x_yieldA hg ho hf hd h
theorem rp_normal {a N : Nat} {R : AOut → List Blk → Prop} {env : Env} {st : LoopState} {pend : Option Code} {tm : List (Nat × AV)} {ps : Array Tmp} {asg body : Code} {S1 : List Blk} (h : S[a]? = some (.loop st pend N tm ps asg body)) (h1 : S.set a (.loop .ready none N tm ps asg body) = S1) (h2 : R (.ret (.bool true)) S1) : RPost a R .normal env S := by
  subst h1; exact ⟨st, pend, N, tm, ps, asg, body, h, h2⟩
theorem rp_exit {a N : Nat} {R : AOut → List Blk → Prop} {env : Env} {st : LoopState} {pend : Option Code} {tm : List (Nat × AV)} {ps : Array Tmp} {asg body : Code} {S1 : List Blk} {id : Nat} (h : S[a]? = some (.loop st pend N tm ps asg body)) (h1 : S.set a (.loop .done (some (.exit id)) N tm ps asg body) = S1) (h2 : R (.ret (.bool false)) S1) : RPost a R (.exit id) env S := by
  subst h1; exact ⟨st, pend, N, tm, ps, asg, body, h, h2⟩
theorem rp_ret {a N : Nat} {R : AOut → List Blk → Prop} {env : Env} {st : LoopState} {pend : Option Code} {tm : List (Nat × AV)} {ps : Array Tmp} {asg body : Code} {S1 : List Blk} (h : S[a]? = some (.loop st pend N tm ps asg body)) (h1 : S.set a (.loop .done (some .ret) N tm ps asg body) = S1) (h2 : R (.ret (.bool false)) S1) : RPost a R .ret env S := by
  subst h1; exact ⟨st, pend, N, tm, ps, asg, body, h, h2⟩
theorem x_range {n0 N : Nat} {Q : APost} {k : List TI} {env : Env} {g : Operand} {ps : Array Tmp} {asg body : Code} {f : FuncId} {first cap ds A : List AV} {S1 : List Blk} (keep : List Nat) (hf : evalA w0 env g = .fn (.func f) first cap) (hds : env DS = .dfr ds)
    (hk : keep.all (fun t => decide (t < N)) = true) (hA : first ++ [.yld (S.length + 1)] ++ cap = A) (hS : S ++ [.obj (.deferred (some [])), .loop .ready none N (keep.map fun t => (t, env t)) ps asg body] = S1)
    (h : ACall P w0 f A S1 (afterRange P w0 n0 N (S.length + 1) k Q (upd env DS (.dfr (.own S.length 0 :: ds))))) :
    RunX P w0 n0 N none (.it (.code (.rangeFunc g ps asg body)) :: k) Q .normal env S := by
  subst hA hS
  exact x_rangeFunc keep hf hds hk h
theorem okOuter_same (n : Nat) (S : List Blk) : okOuter n S S = True := eq_true fun _ _ _ h => .inl h
theorem get_old {S L : List Blk} {a : Nat} (h : a < S.length) : (S ++ L)[a]? = S[a]? := List.getElem?_append_left h
theorem set_old {S L : List Blk} {a : Nat} {B : Blk} (h : a < S.length) : (S ++ L).set a B = S.set a B ++ L := List.set_append_left _ _ h
theorem get_set (S : List Blk) (a : Nat) (B : Blk) : (S.set a B)[a]? = (S[a]?).map (fun _ => B) := by
  by_cases h : a < S.length
  · simp [h]
  · rw [List.getElem?_eq_none (by simp; omega), List.getElem?_eq_none (by omega)]; rfl
theorem set_set (S : List Blk) (a : Nat) (B C : Blk) : (S.set a B).set a C = S.set a C := List.set_set ..
theorem len_set (S : List Blk) (a : Nat) (B : Blk) : (S.set a B).length = S.length := List.length_set ..
theorem f_retX {F : Func} {S0 S S2 : List Blk} {R : AOut → List Blk → Prop} {ms vs : List AV} {env : Env} {v : AV} (h0 : env DS = .dfr ms) (h01 : leaveM ms S = some S2) (h1 : resVs P env S2 F.results.toList = some vs)
    (h3 : conv S2 (fun a => decide (S0.length ≤ a)) 4 (oneOrTup vs) = v) (h4 : v.lt S0.length = true) (hO : OuterOk S2) (hl : S2.length = S0.length) (h : R (.ret v) S2) : FPost P F S0 R .ret env S := by
  subst h3
  refine ⟨ms, S2, vs, h0, h01, h1, ?_, h4, ?_⟩
  · have := okOuter_of (L := []) hO hl
    simpa using this
  · have e : S2.take S0.length = S2 := by rw [← hl]; exact List.take_length
    rw [e]; exact h
theorem f_endX {F : Func} {S0 S S2 : List Blk} {R : AOut → List Blk → Prop} {ms vs : List AV} {env : Env} {v : AV} (h0 : env DS = .dfr ms) (h01 : leaveM ms S = some S2) (h1 : resVs P env S2 F.results.toList = some vs)
    (h3 : conv S2 (fun a => decide (S0.length ≤ a)) 4 (oneOrTup vs) = v) (h4 : v.lt S0.length = true) (hO : OuterOk S2) (hl : S2.length = S0.length) (h : R (.ret v) S2) : FPost P F S0 R .normal env S := f_retX (F := F) h0 h01 h1 h3 h4 hO hl h
theorem f_panicX {F : Func} {S0 S S2 : List Blk} {R : AOut → List Blk → Prop} {ms : List AV} {env : Env} {v v' : AV} (h0 : env DS = .dfr ms) (h01 : leaveM ms S = some S2)
    (h3 : conv S2 (fun a => decide (S0.length ≤ a)) 4 v = v') (h4 : v'.lt S0.length = true) (hO : OuterOk S2) (hl : S2.length = S0.length) (h : R (.panic v') S2) : FPost P F S0 R (.panic v) env S := by
  subst h3
  refine ⟨ms, S2, h0, h01, ?_, h4, ?_⟩
  · have := okOuter_of (L := []) hO hl
    simpa using this
  · have e : S2.take S0.length = S2 := by rw [← hl]; exact List.take_length
    rw [e]; exact h
theorem len_add (S : List Blk) (a b : Nat) : S.length + a + b = S.length + (a + b) := Nat.add_assoc _ _ _
def YB (P : Program) (w0 : World) (a n N rb : Nat) (LB BB : Blk) (R : AOut → List Blk → Prop) (body : Code) : APost :=
  fun x env1 S1 => x = .normal ∧ S1[a]? = some LB ∧ RunX P w0 n N (some rb) [.it (.code body)] (RPost a R) .normal env1 (S1.set a BB)
theorem ya_intro {LB : Blk} {a N : Nat} {tm : List (Nat × AV)} {ps : Array Tmp} {asg body : Code} {args : List AV} {E : Env} {R : AOut → List Blk → Prop} (hLB : LB = .loop .ready none N tm ps asg body) (hS : S[a]? = some LB) (hps : ps.size = args.length) (hN : decide (N ≤ DS) = true)
    (htm : tm.all (fun p => decide (p.1 < N)) = true) (hpp : ps.toList.all (fun p => decide (p < N)) = true) (hE : setP (envT tm) (ps.toList.zip args) = E)
    (h : ∀ rb BB, BB = .loop .busy none N tm ps asg body → RunX P w0 S.length N (some rb) [.it (.code asg)] (YB P w0 a S.length N rb LB BB R body) .normal E S) : YA P w0 a args S R := by
  subst hLB hE
  refine ⟨none, N, tm, ps, asg, body, hS, hps, by simpa using hN, fun p hp => by simpa using List.all_eq_true.1 htm p hp, fun p hp => by simpa using List.all_eq_true.1 hpp p hp, fun rb => runX_one ?_ (h rb _ rfl)⟩
  rintro x e S1 ⟨rfl, h1, h2⟩
  exact ⟨rfl, none, h1, h2⟩
theorem yb_intro {a n N rb : Nat} {LB BB : Blk} {R : AOut → List Blk → Prop} {body : Code} {env : Env} {S2 : List Blk} (h1 : S[a]? = some LB) (h2 : S.set a BB = S2) (h : RunX P w0 n N (some rb) [.it (.code body)] (RPost a R) .normal env S2) : YB P w0 a n N rb LB BB R body .normal env S := by
  subst h2; exact ⟨rfl, h1, h⟩
theorem rp_n {a N : Nat} {R : AOut → List Blk → Prop} {env : Env} {LB BB : Blk} {tm : List (Nat × AV)} {ps : Array Tmp} {asg body : Code} {S1 : List Blk} (hLB : LB = .loop .ready none N tm ps asg body) (hBB : BB = .loop .busy none N tm ps asg body) (h : S[a]? = some BB) (h1 : S.set a LB = S1) (h2 : R (.ret (.bool true)) S1) : RPost a R .normal env S := by
  subst h1 hLB hBB; exact ⟨_, _, N, tm, ps, asg, body, h, h2⟩
theorem rp_e {a N id : Nat} {R : AOut → List Blk → Prop} {env : Env} {BB DB : Blk} {tm : List (Nat × AV)} {ps : Array Tmp} {asg body : Code} {S1 : List Blk} (hBB : BB = .loop .busy none N tm ps asg body) (hDB : DB = .loop .done (some (.exit id)) N tm ps asg body) (h : S[a]? = some BB) (h1 : S.set a DB = S1) (h2 : R (.ret (.bool false)) S1) : RPost a R (.exit id) env S := by
  subst h1 hBB hDB; exact ⟨_, _, N, tm, ps, asg, body, h, h2⟩
theorem rp_r {a N : Nat} {R : AOut → List Blk → Prop} {env : Env} {BB DB : Blk} {tm : List (Nat × AV)} {ps : Array Tmp} {asg body : Code} {S1 : List Blk} (hBB : BB = .loop .busy none N tm ps asg body) (hDB : DB = .loop .done (some .ret) N tm ps asg body) (h : S[a]? = some BB) (h1 : S.set a DB = S1) (h2 : R (.ret (.bool false)) S1) : RPost a R .ret env S := by
  subst h1 hBB hDB; exact ⟨_, _, N, tm, ps, asg, body, h, h2⟩
theorem qds_RPost {a : Nat} {R : AOut → List Blk → Prop} : QDs (RPost a R) := fun _ _ _ _ _ h => h
theorem qds_YB {a n N rb : Nat} {LB BB : Blk} {R : AOut → List Blk → Prop} {body : Code} : QDs (YB P w0 a n N rb LB BB R body) := fun _ _ _ _ _ h => absurd h.1 (by simp)
theorem x_rangeL {n0 N : Nat} {Q : APost} {k : List TI} {env : Env} {g : Operand} {ps : Array Tmp} {asg body : Code} {f : FuncId} {first cap ds A : List AV} {tm : List (Nat × AV)} (keep : List Nat) (hf : evalA w0 env g = .fn (.func f) first cap) (hds : env DS = .dfr ds)
    (hk : keep.all (fun t => decide (t < N)) = true) (hA : first ++ [.yld (S.length + 1)] ++ cap = A) (hT : (keep.map fun t => (t, env t)) = tm)
    (h : ∀ LB, LB = Blk.loop .ready none N tm ps asg body → ACall P w0 f A (S ++ [.obj (.deferred (some [])), LB]) (afterRange P w0 n0 N (S.length + 1) k Q (upd env DS (.dfr (.own S.length 0 :: ds))))) :
    RunX P w0 n0 N none (.it (.code (.rangeFunc g ps asg body)) :: k) Q .normal env S := by
  subst hA hT
  exact x_rangeFunc keep hf hds hk (h _ rfl)
theorem ar_none {n0 N m : Nat} {k : List TI} {Q : APost} {env : Env} {v : AV} {LB XB : Blk} {N' : Nat} {tm : List (Nat × AV)} {ps : Array Tmp} {asg body : Code} {S1 : List Blk} (hLB : LB = .loop .ready none N' tm ps asg body) (hXB : XB = .loop .exhausted none N' tm ps asg body) (hS : S[m]? = some LB) (h1 : S.set m XB = S1)
    (h : RunX P w0 n0 N none k Q .normal env S1) : afterRange P w0 n0 N m k Q env (.ret v) S := by
  subst hLB hXB h1; exact ⟨.ready, none, N', tm, ps, asg, body, hS, rfl, h⟩
theorem ar_some {n0 N m : Nat} {k : List TI} {Q : APost} {env : Env} {v : AV} {DB XB : Blk} {N' : Nat} {tm : List (Nat × AV)} {ps : Array Tmp} {asg body c : Code} {S1 : List Blk} (hDB : DB = .loop .done (some c) N' tm ps asg body) (hXB : XB = .loop .exhausted (some c) N' tm ps asg body) (hS : S[m]? = some DB) (h1 : S.set m XB = S1)
    (h : RunX P w0 n0 N none (.it (.code c) :: k) Q .normal env S1) : afterRange P w0 n0 N m k Q env (.ret v) S := by
  subst hDB hXB h1; exact ⟨.done, some c, N', tm, ps, asg, body, hS, rfl, h⟩
attribute [go_sem] okOuter_same get_old set_old get_set set_set len_set len_add setP envT List.foldr_cons List.foldr_nil List.zip_cons_cons List.zip_nil_left List.zip_nil_right
end Go.Fen
namespace Go.Fen
open Go.RowKit
variable {P : Program} {w0 w w' : World} {ι : List Pl} {ψ : Psi} {S : List Blk}
theorem Rel.mperm (h : Rel w0 ι ψ S w) {a : Nat} {fz : Bool} {es es' : List (AV × AV)} (hS : S[a]? = some (.mp fz es)) (hp : es.Perm es') : Rel w0 ι ψ (S.set a (.mp fz es')) w := by
  have hal : a < S.length := (List.getElem?_eq_some_iff.1 hS).1
  have back : ∀ (i : Nat) (B : Blk), (S.set a (.mp fz es'))[i]? = some B → ∃ B0, S[i]? = some B0 ∧ ∀ p, B0.at p = B.at p := by
    intro i B hB
    by_cases hi : i = a
    · subst hi
      simp [hal] at hB
      subst hB
      exact ⟨_, hS, fun _ => rfl⟩
    · rw [List.getElem?_set_ne (by omega)] at hB
      exact ⟨B, hB, fun _ => rfl⟩
  refine ⟨h.below, h.psi, h.psim, by simp [h.len], fun i B q hB hq => ?_, h.old, fun i j B C p q k hB hC hp hq hk1 hk2 => ?_⟩
  · by_cases hi : i = a
    · subst hi
      simp [hal] at hB
      subst hB
      obtain ⟨h0, hn, ⟨me, c, l, h1, h2, h3, h4, h5⟩, h6⟩ := h.blk i _ q hS hq
      exact ⟨h0, (hp.map Prod.fst).nodup_iff.1 hn, ⟨me, c, l, h1, h2, h3.trans hp, h4, h5⟩, h6⟩
    · rw [List.getElem?_set_ne (by omega)] at hB
      exact h.blk i B q hB hq
  · obtain ⟨B0, e1, e2⟩ := back i B hB
    obtain ⟨C0, e3, e4⟩ := back j C hC
    exact h.inj i j B0 C0 p q k e1 e3 hp hq (by rw [e2]; exact hk1) (by rw [e4]; exact hk2)
section
variable {n0 N : Nat} {r : Option Nat} {Q : APost} {k : List TI} {env : Env}
theorem x_mperm {i : KI} (a : Nat) {fz : Bool} {es es' : List (AV × AV)} {S1 : List Blk} (hS : S[a]? = some (.mp fz es)) (hp : es.Perm es') (h1 : S.set a (.mp fz es') = S1) (h : RunX P w0 n0 N r (.it i :: k) Q .normal env S1) : RunX P w0 n0 N r (.it i :: k) Q .normal env S := by
  subst h1
  intro ι ψ w ac hR hE
  exact h ι ψ w ac (hR.mperm hS hp) hE
theorem x_put {all : Array Oper} {o : Oper} {l : List Oper} {t kt et : TypeId} {m x y : Operand} {a : Nat} {es : List (AV × AV)} {K V : AV} {S1 : List Blk} (hg : guardA all env o = some true) (ho : o.op = .mapUpdate t m x y) (hu : P.underlying t = some (.map kt et)) (hm : evalA w0 env m = .mown a) (hx : evalA w0 env x = K) (hy : evalA w0 env y = V)
    (hS : S[a]? = some (.mp false es)) (hk : keyA P kt K = true) (hall : es.all (fun e => keyA P kt e.1) = true) (hf : es.any (fun e => keq K e.1) = false) (hd : dstOk N o.dst = true) (h1 : S.set a (.mp false (es ++ [(K, V)])) = S1)
    (h : RunX P w0 n0 N r (.it (.ops all l) :: k) Q .normal (putA env o.dst (.tup [])) S1) : RunX P w0 n0 N r (.it (.ops all (o :: l)) :: k) Q .normal env S := by
  subst h1
  refine x_step hg ?_ hd h
  rw [ho]
  simp only [stepF, mapUpdateA, hu, hm, hS, hx, hy, hk, hall, upsertA, hf, Bool.and_self, if_true, Bool.false_eq_true, if_false]
end
theorem keq_of_mem {kt : TypeId} {es : List (AV × AV)} {K : AV} (hk : keyA P kt K = true) (hall : ∀ e ∈ es, keyA P kt e.1 = true) (hn : K ∉ es.map Prod.fst) : es.any (fun e => keq K e.1) = false := by
  rw [List.any_eq_false]
  intro e he hq
  have := (keq_iff hk (hall e he)).1 hq
  exact hn (this ▸ List.mem_map_of_mem he)
end Go.Fen
namespace Go.Fen
open Go.RowKit
section
variable {P : Program} {w0 : World} {n0 N : Nat} {r : Option Nat} {ops : Array Oper} {Q : APost} {k : List TI} {env : Env} {S : List Blk}
theorem anyP_takeD {i : Nat} {oi : Oper} {v : AV} {fp : List Nat} (hi : ops[i]? = some oi) (hd : dstOk N oi.dst = true) (hQ : ∀ u env S, Q (.panic u) (putA env oi.dst v) S → Q (.panic u) env S) :
    ∀ (f : Nat) (listed : Array Bool) (prot : List (Nat × List Nat)) (env : Env) (S : List Blk),
      (∀ j oj, ops[j]? = some oj → j ≠ i → listed.getD j true = false → (∀ e ∈ oj.after, Region.binds .any e = true → e.on ≠ i) → oi.apart ops oj = true) →
      i ∈ Region.ready .any ops listed → ReadsAt w0 P ops oi v fp env S → AnyP P w0 n0 N r ops k Q f (listed.setIfInBounds i true) ((i, fp) :: prot) (putA env oi.dst v) S → AnyP P w0 n0 N r ops k Q (f + 1) listed prot env S := by
  intro f
  induction f with
  | zero =>
    intro listed prot env S hfree hr hrd h
    refine ⟨fun e => (by rw [e] at hr; cases hr), fun j hj => ?_⟩
    by_cases hji : j = i
    · subst hji
      refine ⟨oi, hi, hd, ?_⟩
      rcases hrd with ⟨h1, h2⟩ | ⟨h1, h2, h3, h4⟩
      · subst h2
        exact .inl ⟨h1, protL_same, anyP_weaken _ _ _ _ h⟩
      · exact .inr (.inl ⟨h1, v, S, h4, protL_same, anyP_weaken _ _ _ _ h⟩)
    · have := ready_mono hj hji
      rw [h.1] at this; cases this
  | succ f ih =>
    intro listed prot env S hfree hr hrd h
    refine ⟨fun e => (by rw [e] at hr; cases hr), fun j hj => ?_⟩
    by_cases hji : j = i
    · subst hji
      refine ⟨oi, hi, hd, ?_⟩
      rcases hrd with ⟨h1, h2⟩ | ⟨h1, h2, h3, h4⟩
      · subst h2
        exact .inl ⟨h1, protL_same, anyP_weaken _ _ _ _ h⟩
      · exact .inr (.inl ⟨h1, v, S, h4, protL_same, anyP_weaken _ _ _ _ h⟩)
    · obtain ⟨hun, oj, hoj, hall⟩ := mem_ready.1 hj
      have hiu : listed.getD i false = false := by
        have := (mem_ready.1 hr).1
        simp only [Array.getD_eq_getD_getElem?] at this ⊢
        cases e : listed[i]? with
        | none => rfl
        | some b => rw [e] at this; simpa using this
      have hno : ∀ e ∈ oj.after, Region.binds .any e = true → e.on ≠ i := fun e he hb heq => by
        have := hall e he hb
        rw [heq, hiu] at this; cases this
      have hap := hfree j oj hoj hji hun hno
      obtain ⟨a1, a2, a3⟩ := Oper.apart_spec hap
      have hrel : relB ops j i = true := by
        unfold relB
        simp only [hoj]
        simp only [Bool.not_eq_true', Array.any_eq_false']
        intro e he
        by_cases hb : Region.binds .any e = true
        · simp [hb, hno e he hb]
        · simp [hb]
      obtain ⟨o, ho, hdj, hcase⟩ := h.2 j (ready_mono hj hji)
      rw [hoj] at ho; cases ho
      have hcomm : (listed.setIfInBounds i true).setIfInBounds j true = (listed.setIfInBounds j true).setIfInBounds i true := by
        apply Array.ext_getElem?
        intro m
        simp only [Array.getElem?_setIfInBounds]
        by_cases h1 : i = m <;> by_cases h2 : j = m <;> simp_all
      have hop := operands_put (w0 := w0) (env := env) (v := v) a1
      have hgd := guardA_put (env := env) (v := v) a1
      have next : ∀ (u : AV) (S' : List Blk), (ProtL ops j ((i, fp) :: prot) S S' ∧ AnyP P w0 n0 N r ops k Q f ((listed.setIfInBounds i true).setIfInBounds j true) ((i, fp) :: prot) (putA (putA env oi.dst v) oj.dst u) S') →
          ProtL ops j prot S S' ∧ AnyP P w0 n0 N r ops k Q (f + 1) (listed.setIfInBounds j true) prot (putA env oj.dst u) S' := by
        rintro u S' ⟨hp, hk⟩
        refine ⟨hp.2, ih _ prot _ S' ?_ (ready_mono hr (fun e => hji e.symm)) (hrd.later a3 (hp.1 hrel)) ?_⟩
        · intro m om hom hmi hmu hmno
          refine hfree m om hom hmi ?_ hmno
          by_cases hmj : m = j
          · subst hmj
            simp only [Array.getD_eq_getD_getElem?, Array.getElem?_setIfInBounds] at hmu ⊢
            by_cases hlt : m < listed.size
            · simp [hlt] at hmu
            · simp [hlt] at hmu
          · rw [getD_set_ne true (fun e => hmj e.symm)] at hmu; exact hmu
        · rw [← hcomm, ← putA_comm a2]; exact hk
      refine ⟨oj, hoj, hdj, ?_⟩
      rcases hcase with ⟨b1, b2⟩ | ⟨b1, u, S', b2, b3⟩ | ⟨b1, fop, args, tys, fn, first, cap, sh, b2, b3, b4⟩
      · exact .inl ⟨by rw [← hgd]; exact b1, next _ _ b2⟩
      · exact .inr (.inl ⟨by rw [← hgd]; exact b1, u, S', by rw [← stepF_congr hop]; exact b2, next _ _ b3⟩)
      · have hargs : args.toList.map (evalA w0 (putA env oi.dst v)) = args.toList.map (evalA w0 env) := list_congr fun y hy => hop y (by rw [b2]; simp [Op.operands, Call.operands]; exact .inr (by simpa using hy))
        have hfop : evalA w0 (putA env oi.dst v) fop = evalA w0 env fop := hop fop (by rw [b2]; simp [Op.operands, Call.operands])
        refine .inr (.inr ⟨by rw [← hgd]; exact b1, fop, args, tys, fn, first, cap, sh, b2, by rw [← hfop]; exact b3, ?_⟩)
        rw [hargs] at b4
        refine b4.mono fun out S' hk => ?_
        cases out with
        | ret u => exact next u S' hk
        | panic u => exact hQ u _ _ hk
def resTmp : ResultVar → Nat
  | .tmp t => t
  | .cell t _ => t
theorem resVs_upd {d : Nat} {x : AV} : ∀ {l : List ResultVar}, (l.all fun y => !(resTmp y == d)) = true → resVs P (upd env d x) S l = resVs P env S l := by
  intro l
  induction l with
  | nil => intro _; rfl
  | cons y l ih =>
    intro h
    simp only [List.all_cons, Bool.and_eq_true] at h
    have hy : resTmp y ≠ d := by have := h.1; simpa using this
    have h1 : resV P (upd env d x) S y = resV P env S y := by
      cases y <;> simp only [resTmp] at hy <;> simp only [resV, upd, if_neg hy]
    simp only [resVs, h1, ih h.2]
def dstFree (F : Func) (d : Option Nat) : Bool := match d with
  | none => true
  | some d => (F.results.toList.all fun y => !(resTmp y == d)) && !(d == DS)
theorem qdD {F : Func} {S0 : List Blk} {R : AOut → List Blk → Prop} {d : Option Nat} {v : AV} (hd : dstFree F d = true) : ∀ u env S, FPostD P w0 F S0 R (.panic u) (putA env d v) S → FPostD P w0 F S0 R (.panic u) env S := by
  intro u env S h
  cases d with
  | none => exact h
  | some d =>
    simp only [dstFree, Bool.and_eq_true] at hd
    have hds : DS ≠ d := by have := hd.2; simp at this; exact fun e => this e.symm
    obtain ⟨g, first, cap, h1, h2⟩ := h
    refine ⟨g, first, cap, ?_, ?_⟩
    · rw [← h1]; simp only [putA, upd, if_neg hds]
    · have : ResOk P F S0 (putA env (some d) v) R = ResOk P F S0 env R := by
        funext S'
        simp only [ResOk, putA, resVs_upd hd.1]
      rwa [this] at h2
theorem d_takeD (i : Nat) {F : Func} {S0 : List Blk} {R : AOut → List Blk → Prop} {f : Nat} {listed : Array Bool} {prot : List (Nat × List Nat)} {oi : Oper} {v : AV} {fp : List Nat} (hn : nextR ops listed = some i) (hi : ops[i]? = some oi) (hg : guardA ops env oi = some true) (hs : stepF P S (evalA w0 env) oi.op = some (v, S))
    (hd : dstOk N oi.dst = true) (hf : dstFree F oi.dst = true) (hfp : fpOp (evalA w0 env) oi.op = fp) (h : AnyP P w0 n0 N r ops k (FPostD P w0 F S0 R) f (listed.setIfInBounds i true) ((i, fp) :: prot) (putA env oi.dst v) S) : AnyP P w0 n0 N r ops k (FPostD P w0 F S0 R) (f + 1) listed prot env S := by
  obtain ⟨h1, h2, h3⟩ := nextR_spec hn
  exact anyP_takeD hi hd (qdD hf) f listed prot env S (Region.free_spec hi h3) h1 (.inr ⟨hg, h2 _ hi, hfp, hs⟩) h
theorem pl_skip2 {i p : Nat} {q : List Nat} {prot : List (Nat × List Nat)} {S S' : List Blk} (hp : relB ops i p = false) (h : ProtL ops i prot S S') : ProtL ops i ((p, q) :: prot) S S' := pl_skip hp h
end
end Go.Fen
namespace Go.Fen
open Go.RowKit
section
variable {P : Program} {w0 w : World} {ι : List Pl} {ψ : Psi} {n0 N : Nat} {r : Option Nat} {Q : APost} {k : List TI} {env : Env} {S : List Blk}
def byteAV (b : UInt8) : AV := .int .u8 (b.toNat : Int)
theorem Rel.bytes (h : Rel w0 ι ψ S w) (e : TypeId) (s : ByteArray) :
    ∃ ψ', ψ.le ψ' ∧ Rel w0 ι ψ' S (Lib.bytesWorld w e s) ∧ ∀ cap, s.size ≤ cap → VR ι ψ' (.sval false (s.data.toList.map byteAV)) (.slice (some ⟨w.heap.size, 0, none⟩) s.size cap) := by
  let ψ' : Psi := ⟨fun b o => if b = w.heap.size then (if o < s.size then some (.int .u8 ((s.data.toList.getD o 0).toNat : Int)) else none) else ψ.c b o, ψ.m⟩
  have hfresh : ∀ o v, ψ.c w.heap.size o = some v → False := fun o v e => by
    have := World.block_lt_of_cell? w _ (h.psi _ _ _ e)
    simp at this
  have hle : ψ.le ψ' := ⟨fun b o v e => by
    by_cases hb : b = w.heap.size
    · subst hb; exact absurd e (fun e => hfresh _ _ e)
    · simp only [ψ', if_neg hb]; exact e, fun b es e => e⟩
  refine ⟨ψ', hle, h.grow ((Lib.bytesWorld_below w e s).mono h.n0) (fun j hj => Lib.bytesWorld_at_old w e s j hj) hle (fun b o v e' => ?_) (fun b es c e' => .inl e'), fun cap hcap => ?_⟩
  · simp only [ψ'] at e'
    split at e'
    · next hb =>
      subst hb
      split at e'
      · next ho =>
        cases e'
        exact .inr ⟨Nat.le_refl _, Lib.bytesWorld_cell w e s o ho⟩
      · cases e'
    · exact .inl e'
  · have hl : (s.data.toList.map byteAV).length = s.size := by rw [List.length_map, Array.length_toList]; rfl
    have key := VR.sval (ι := ι) (ψ := ψ') 1 false (s.data.toList.map byteAV) w.heap.size 0 cap (fun i _ => .int .u8 ((s.data.toList.getD i 0).toNat : Int)) ?_ (by omega) (by simp) ?_ ?_
    · rw [hl] at key; exact key
    · intro i x hx
      obtain ⟨y, _, rfl⟩ := List.mem_map.1 (List.mem_of_getElem? hx)
      rfl
    · intro i x j y hx hy
      have hi : i < s.size := by have := (List.getElem?_eq_some_iff.1 hx).1; omega
      obtain ⟨z, _, rfl⟩ := List.mem_map.1 (List.mem_of_getElem? hx)
      cases j with
      | zero => cases hy; exact ⟨rfl, by simp [ψ', hi]⟩
      | succ j => simp [byteAV, AV.cells] at hy
    · intro i x j y hx hy
      rw [List.getElem?_map] at hx
      cases hz : s.data.toList[i]? with
      | none => rw [hz] at hx; cases hx
      | some z =>
        rw [hz] at hx
        cases hx
        cases j with
        | zero =>
          cases hy
          simp only [List.getD, hz, Option.getD_some]
          exact .int _ _
        | succ j => simp [byteAV, AV.cells] at hy
theorem x_bytes {all : Array Oper} {o : Oper} {l : List Oper} {src dst e : TypeId} {u : TypeDesc} {x : Operand} {s : List UInt8} (hg : guardA all env o = some true) (ho : o.op = .convert src dst x) (hs : P.underlying src = some u) (hd : P.underlying dst = some (.slice e)) (he : P.underlying e = some (.int .u8))
    (hx : evalA w0 env x = .str s) (hds : dstOk N o.dst = true) (h : RunX P w0 n0 N r (.it (.ops all l) :: k) Q .normal (putA env o.dst (.sval false (s.map byteAV))) S) : RunX P w0 n0 N r (.it (.ops all (o :: l)) :: k) Q .normal env S := by
  intro ι ψ w a hR hE
  have hw := guardA_sound hE hg
  refine wpListIn_do hw (fun c hc => by rw [hc] at ho; cases ho) ?_
  have hv := hE.eval hR x
  rw [hx] at hv
  generalize hcx : a.eval x = cx at hv
  cases hv with
  | str _ b hb =>
    subst hb
    have hres : (execOp a.eval o).run P w = .ok (.value (.slice (some ⟨w.heap.size, 0, none⟩) b.size (grownCap w b.size 0 e))) (Lib.bytesWorld w e b) := by
      have := Lib.run_convert_string_bytes (P := P) w src dst e b hs hd he
      simp [execOp, ho, hcx, this, Result.andThen]
    rw [hres]
    obtain ⟨ψ', hle, hR', hv'⟩ := hR.bytes e b
    have hx' : Ext ι ψ ι ψ' := ⟨(Ext.refl ι ψ).pl, hle⟩
    exact KI.mono (h ι ψ' _ _ hR' ((hE.mono hx').putA (hv' _ (grownCap_ge _ _ _ _)) hds)) fun e a2 w2 hp => hp.chain (hx'.take n0)
def cvX : AV → Option Value
  | .ifc t x => (cvA x).map (.iface t)
  | x => cvA x
theorem cvX_sound {x : AV} {c v : Value} (hx : VR ι ψ x c) (h : cvX x = some v) : c = v := by
  cases x <;> try exact cvA_sound hx h
  next t y =>
  cases hx with
  | ifc _ _ u hu =>
    simp only [cvX] at h
    cases hy : cvA y with
    | none => rw [hy] at h; cases h
    | some z =>
      rw [hy] at h
      cases h
      rw [cvA_sound hu hy]
theorem ACall.libR {f : FuncId} {args : List AV} {vs : List Value} {R : AOut → List Blk → Prop} (he : ∀ (a : Array Value) (w : World), (callFunc f a).run P w = .ok (.enter f a) w) (ha : args.map cvX = vs.map some)
    (h : ∀ w, RowKit.Below w0.heap.size w0 w → Calls P f vs.toArray w fun e w' => ∃ c, e = .returned c ∧ RowKit.Below w.heap.size w w' ∧ ∃ v, (∀ ι ψ, VR ι ψ v c) ∧ R (.ret v) S) : ACall P w0 f args S R := by
  unfold ACall
  refine ⟨he, fun ι ψ w cargs hRel hl hargs => ?_⟩
  have hlen : args.length = vs.length := by simpa using congrArg List.length ha
  have : cargs = vs.toArray := by
    apply Array.ext_getElem?
    intro j
    by_cases hj : j < args.length
    · have h1 : args[j]? = some args[j] := List.getElem?_eq_getElem hj
      have h2 : cargs[j]? = some cargs[j] := Array.getElem?_eq_getElem (by omega)
      have h3 : vs[j]? = some vs[j] := List.getElem?_eq_getElem (by omega)
      have h4 := hargs j _ _ h1 h2
      have h5 : (args.map cvX)[j]? = (vs.map some)[j]? := by rw [ha]
      simp only [List.getElem?_map, h1, h3, Option.map_some, Option.some.injEq] at h5
      rw [h2]
      simp only [List.getElem?_toArray, h3]
      rw [cvX_sound h4 h5]
    · rw [Array.getElem?_eq_none (by omega), List.getElem?_toArray, List.getElem?_eq_none (by omega)]
  subst this
  refine (h w hRel.below).mono ?_
  rintro e w' ⟨c, rfl, hb, v, hv, hR⟩
  have hb0 : RowKit.Below w0.heap.size w w' := hb.mono hRel.n0
  exact ⟨ι, ψ, .ret v, S, Ext.refl _ _, hRel.grow hb0 (fun k hk => hb.block k hk) (Psi.le_refl _) (fun _ _ _ e => .inl e) (fun _ _ _ e => .inl e), hv _ _, hR⟩
end
end Go.Fen
namespace Go.Fen
def agreeL : List Nat → Env → Env → Prop
  | [], _, _ => True
  | t :: l, e, e' => e t = e' t ∧ agreeL l e e'
theorem agreeL_refl (e : Env) : ∀ l, agreeL l e e
  | [] => trivial
  | _ :: l => ⟨rfl, agreeL_refl e l⟩
section
variable {P : Program} {w0 : World} {n0 N : Nat} {r : Option Nat} {Q : APost} {k : List TI} {env : Env} {S : List Blk}
theorem x_gen {i : KI} (L : List Nat) (h : ∀ env', agreeL L env' env → RunX P w0 n0 N r (.it i :: k) Q .normal env' S) : RunX P w0 n0 N r (.it i :: k) Q .normal env S := h env (agreeL_refl env L)
theorem x_callR {all : Array Oper} {o : Oper} {l : List Oper} {fop : Operand} {args : Array Operand} {tys : Array TypeId} {f : FuncId}
    (hg : guardA all env o = some true) (ho : o.op = .call ⟨.value fop, args, tys⟩) (hf : evalA w0 env fop = .fn (.func f) [] []) (hd : dstOk N o.dst = true) {A : List AV} (hA : args.toList.map (evalA w0 env) = A)
    (h : ACall P w0 f A S (afterCall P w0 n0 N r all l k Q env o.dst)) :
    RunX P w0 n0 N r (.it (.ops all (o :: l)) :: k) Q .normal env S := by
  subst hA
  intro ι ψ w a hR hE
  have hw := guardA_sound hE hg
  refine wpListIn_do hw (fun c hc => by rw [hc] at ho; cases ho) ?_
  have hvf := hE.eval hR fop
  rw [hf] at hvf
  generalize hcf : a.eval fop = cf at hvf
  cases hvf with
  | fn _ _ _ vf vc hl1 hl2 h1 h2 =>
    obtain rfl : vf = #[] := Array.eq_empty_of_size_eq_zero hl1.symm
    obtain rfl : vc = #[] := Array.eq_empty_of_size_eq_zero hl2.symm
    have hres : (execOp a.eval o).run P w = .ok (.enter f (args.map a.eval)) w := by
      simp [execOp, ho, resolve, hcf, Deferred.ofValue, invoke, h.1]
    rw [hres]
    refine ⟨fun h => depth_FR r h, callsIn_FR (r := r) ?_⟩
    refine (h.2 ι ψ w (args.map a.eval) hR (by simp) ?_).mono ?_
    · intro j x c hx hc
      simp only [List.getElem?_map, Option.map_eq_some_iff, Array.getElem?_map, Array.getElem?_toList] at hx hc
      obtain ⟨z, hz, rfl⟩ := hx
      obtain ⟨z', hz', rfl⟩ := hc
      rw [hz] at hz'; cases hz'
      exact hE.eval hR z
    · rintro e w' ⟨ι', ψ', out, S', e1, e2, e3, e4⟩
      cases out with
      | ret v =>
        cases e <;> simp only [OutR] at e3
        exact KI.mono (it := .ops all l) (e4 ι' ψ' w' _ e2 ((hE.mono e1).putA e3 hd)) fun e a2 w2 hp => hp.chain (e1.take n0)
      | panic v =>
        cases e <;> simp only [OutR] at e3
        exact ⟨ι', ψ', .panic v, env, S', e1.take n0, e2, hE.mono e1, e3, e4⟩
theorem d_lt {ops : Array Oper} {f : Nat} {listed : Array Bool} {prot : List (Nat × List Nat)} (n : Nat) (_h0 : (match nextR ops listed with | some i => decide (i < n) | none => false) = true) (h : AnyP P w0 n0 N r ops k Q f listed prot env S) : AnyP P w0 n0 N r ops k Q f listed prot env S := h
theorem d_lt1 {ops : Array Oper} {f : Nat} {listed : Array Bool} {prot : List (Nat × List Nat)} (n : Nat) (_h0 : (match Region.ready .any ops listed with | [i] => decide (i < n) | _ => false) = true) (h : AnyP P w0 n0 N r ops k Q f listed prot env S) : AnyP P w0 n0 N r ops k Q f listed prot env S := h
theorem share {G : Prop} (K : Prop) (hK : K) (f : K → G) : G := f hK
theorem d_three {ops : Array Oper} {f : Nat} {listed : Array Bool} {prot : List (Nat × List Nat)} (i j m : Nat) (hr : Region.ready .any ops listed = [i, j, m])
    (h : OpA P w0 N ops Q i (fun env' S' => ProtL ops i prot S S' ∧ AnyP P w0 n0 N r ops k Q f (listed.setIfInBounds i true) prot env' S') env S)
    (h' : OpA P w0 N ops Q j (fun env' S' => ProtL ops j prot S S' ∧ AnyP P w0 n0 N r ops k Q f (listed.setIfInBounds j true) prot env' S') env S)
    (h'' : OpA P w0 N ops Q m (fun env' S' => ProtL ops m prot S S' ∧ AnyP P w0 n0 N r ops k Q f (listed.setIfInBounds m true) prot env' S') env S) : AnyP P w0 n0 N r ops k Q (f + 1) listed prot env S :=
  ⟨fun e => (by rw [e] at hr; cases hr), fun q hq => (by
    rw [hr] at hq
    rcases List.mem_cons.1 hq with rfl | hq
    · exact h
    · rcases List.mem_cons.1 hq with rfl | hq
      · exact h'
      · obtain rfl : q = m := by simpa using hq
        exact h'')⟩
end
end Go.Fen
namespace Go.Fen
open Go.RowKit
variable {P : Program} {w0 : World} {n0 N : Nat} {r : Option Nat} {Q : APost} {k : List TI} {env : Env} {S : List Blk}
theorem Rel.freezeC {ι : List Pl} {ψ : Psi} {w : World} (h : Rel w0 ι ψ S w) {a : Nat} {cs : List AV} {ty : Option TypeId} (hS : S[a]? = some (.cells cs ty)) :
    ∃ ψ', ψ.le ψ' ∧ Rel w0 ι ψ' (S.set a .dead) w ∧ ∀ (o : Nat) (v : Value), VR ι ψ (.own a o) v → VR ι ψ' (.pro (cs.drop o)) v := by
  obtain ⟨pl, hpl, hB⟩ := h.get hS
  have hset : ι.set a pl = ι := set_self hpl
  obtain ⟨hn0, ⟨c, T, hw, hsz, hc⟩, hno, hty⟩ := hB
  have hcell : ∀ j v, c[j]? = some v → w.cell? ⟨pl.blk, j, none⟩ = some v := fun j v hv => by
    simp [World.cell?, hw, hv]
  have hle : ψ.le (ψ.addRow pl.blk c.toList) := Psi.le_addRow fun o v e => by rw [hno o] at e; cases e
  have hext : Ext ι ψ ι (ψ.addRow pl.blk c.toList) := ⟨(Ext.refl ι ψ).pl, hle⟩
  refine ⟨ψ.addRow pl.blk c.toList, hle, ?_, ?_⟩
  · have key := h.update (w' := w) (ψ' := ψ.addRow pl.blk c.toList) (B' := .dead) (pl' := pl) hS hpl (Below.refl _ _) (fun _ _ _ => rfl) (by rw [hset]; exact hext) ?_ (fun k hk => by cases hk) ?_ rfl
    · rw [hset] at key; exact key
    · trivial
    · intro b o v ev
      simp only [Psi.addRow] at ev
      split at ev
      · next hb => subst hb; exact .inr ⟨.inl rfl, hcell o v (by simpa using ev)⟩
      · next hb => exact .inl ⟨ev, by simp [Blk.at]; exact fun e => hb e.symm⟩
  · intro o v hv
    cases hv with
    | own _ _ pl' h' =>
      rw [hpl] at h'; cases h'
      refine .pro (cs.drop o) pl.blk o (fun j => (c[o + j]?).getD default) (fun j x ex => ?_) (fun j x ex => ?_)
      · rw [List.getElem?_drop] at ex
        obtain ⟨h1, v, h2, _⟩ := hc (o + j) x ex
        exact ⟨h1, by simp [Psi.addRow, h2]⟩
      · rw [List.getElem?_drop] at ex
        obtain ⟨h1, v, h2, h3⟩ := hc (o + j) x ex
        rw [h2]
        exact h3.mono hext
theorem x_frz {i : KI} {t a o : Nat} {cs : List AV} {ty : Option TypeId} (ht : env t = .own a o) (hS : S[a]? = some (.cells cs ty))
    (h : RunX P w0 n0 N r (.it i :: k) Q .normal (upd env t (.pro (cs.drop o))) (S.set a .dead)) : RunX P w0 n0 N r (.it i :: k) Q .normal env S := by
  intro ι ψ w ac hR hE
  obtain ⟨ψ1, hle, hR1, hv⟩ := hR.freezeC hS
  have hx : Ext ι ψ ι ψ1 := ⟨(Ext.refl ι ψ).pl, hle⟩
  have hE' : EnvR ι ψ1 N (upd env t (.pro (cs.drop o))) ac := by
    have htd : t ≠ DS := fun e => by
      obtain ⟨l, vs, h1, _⟩ := hE.defers
      rw [e, h1] at ht; cases ht
    refine ⟨hE.size, hE.bound, ?_, fun s => ?_⟩
    · obtain ⟨l, vs, h1, h2, h3, h4⟩ := hE.defers
      exact ⟨l, vs, by rw [upd, if_neg (Ne.symm htd)]; exact h1, h2, fun j x v hx' hv => (h3 j x v hx' hv).mono hx, h4⟩
    simp only [upd]
    split
    · next hs =>
      subst hs
      have hvv := hE.tmp s
      rw [ht] at hvv
      exact hv o _ hvv
    · exact (hE.tmp s).mono hx
  exact KI.mono (h ι ψ1 w ac hR1 hE') fun e a2 w2 hp => hp.chain (hx.take n0)
end Go.Fen
namespace Go.Fen
open Go.RowKit
variable {P : Program} {w0 : World} {n0 N : Nat} {r : Option Nat} {Q : APost} {k : List TI} {env : Env} {S : List Blk}
theorem x_soft {i : KI} {t : Nat} (ht : env t = .snil)
    (h : RunX P w0 n0 N r (.it i :: k) Q .normal (upd env t (.sval false [])) S) : RunX P w0 n0 N r (.it i :: k) Q .normal env S := by
  intro ι ψ w a hR hE
  refine h ι ψ w a hR ?_
  have htd : t ≠ DS := fun e => by
    obtain ⟨l, vs, h1, _⟩ := hE.defers
    rw [e, h1] at ht; cases ht
  refine ⟨hE.size, hE.bound, ?_, fun s => ?_⟩
  · obtain ⟨l, vs, h1, h2, h3, h4⟩ := hE.defers
    exact ⟨l, vs, by rw [upd, if_neg (Ne.symm htd)]; exact h1, h2, h3, h4⟩
  simp only [upd]
  split
  · next hs =>
    subst hs
    have hv := hE.tmp s
    rw [ht] at hv
    generalize a.tmps.getD s undef = c at hv
    cases hv
    exact .svnil _
  · exact hE.tmp s
section
variable {ops : Array Oper} {f : Nat} {listed : Array Bool} {prot : List (Nat × List Nat)}
def AnyAt (P : Program) (w0 : World) (n0 N : Nat) (r : Option Nat) (ops : Array Oper) (k : List TI) (Q : APost) (f : Nat) (listed : Array Bool) (prot : List (Nat × List Nat)) (env : Env) (S : List Blk) (_i : Nat) : Prop := AnyP P w0 n0 N r ops k Q f listed prot env S
theorem a_0 (h : AnyAt P w0 n0 N r ops k Q f listed prot env S 0) : AnyP P w0 n0 N r ops k Q f listed prot env S := h
theorem a_s {i : Nat} (_h0 : (match nextR ops listed with | some j => decide (i < j) | none => false) = true) (h : AnyAt P w0 n0 N r ops k Q f listed prot env S (i + 1)) : AnyAt P w0 n0 N r ops k Q f listed prot env S i := h
theorem a_o {i : Nat} (_h0 : (match Region.ready .any ops listed with | [j] => decide (i < j) | _ => false) = true) (h : AnyAt P w0 n0 N r ops k Q f listed prot env S (i + 1)) : AnyAt P w0 n0 N r ops k Q f listed prot env S i := h
theorem a_take {i : Nat} {oi : Oper} {v : AV} {fp : List Nat} (hn : nextR ops listed = some i) (hQ : QDs Q) (hN : decide (N ≤ DS) = true) (hi : ops[i]? = some oi) (hg : guardA ops env oi = some true) (hs : stepF P S (evalA w0 env) oi.op = some (v, S))
    (hd : dstOk N oi.dst = true) (hfp : fpOp (evalA w0 env) oi.op = fp) (h : AnyP P w0 n0 N r ops k Q f (listed.setIfInBounds i true) ((i, fp) :: prot) (putA env oi.dst v) S) : AnyAt P w0 n0 N r ops k Q (f + 1) listed prot env S i :=
  d_take i hn hQ hN hi hg hs hd hfp h
theorem a_unw {i : Nat} {oi : Oper} (hn : nextR ops listed = some i) (hQ : QDs Q) (hN : decide (N ≤ DS) = true) (hi : ops[i]? = some oi) (hg : guardA ops env oi = some false)
    (hd : dstOk N oi.dst = true) (h : AnyP P w0 n0 N r ops k Q f (listed.setIfInBounds i true) ((i, []) :: prot) (putA env oi.dst (.tup [])) S) : AnyAt P w0 n0 N r ops k Q (f + 1) listed prot env S i :=
  d_unw i hn hQ hN hi hg hd h
theorem a_one {i : Nat} (hr : Region.ready .any ops listed = [i]) (h : OpA P w0 N ops Q i (fun env' S' => ProtL ops i prot S S' ∧ AnyP P w0 n0 N r ops k Q f (listed.setIfInBounds i true) prot env' S') env S) : AnyAt P w0 n0 N r ops k Q (f + 1) listed prot env S i :=
  d_one i hr h
theorem a_takeD {i : Nat} {F : Func} {S0 : List Blk} {R : AOut → List Blk → Prop} {oi : Oper} {v : AV} {fp : List Nat} (hn : nextR ops listed = some i) (hi : ops[i]? = some oi) (hg : guardA ops env oi = some true) (hs : stepF P S (evalA w0 env) oi.op = some (v, S))
    (hd : dstOk N oi.dst = true) (hf : dstFree F oi.dst = true) (hfp : fpOp (evalA w0 env) oi.op = fp) (h : AnyP P w0 n0 N r ops k (FPostD P w0 F S0 R) f (listed.setIfInBounds i true) ((i, fp) :: prot) (putA env oi.dst v) S) : AnyAt P w0 n0 N r ops k (FPostD P w0 F S0 R) (f + 1) listed prot env S i :=
  d_takeD i hn hi hg hs hd hf hfp h
end
end Go.Fen
namespace Go.Fen
open Go.RowKit
variable {P : Program} {w0 : World} {S : List Blk}
def FPostK (P : Program) (F : Func) (S0 : List Blk) (R : AOut → List Blk → Prop) : APost
  | .normal, env, S | .ret, env, S => ∃ ms S1 vs, env DS = .dfr ms ∧ leaveM ms S = some S1 ∧ resVs P env S1 F.results.toList = some vs ∧ R (.ret (oneOrTup vs)) S1
  | .panic v, env, S => ∃ ms S1, env DS = .dfr ms ∧ leaveM ms S = some S1 ∧ R (.panic v) S1
  | _, _, _ => False
theorem enterK {f : FuncId} {F : Func} {c : Code} {args : List AV} {R : AOut → List Blk → Prop} (hf : P.funcs[f]? = some F) (hb : F.body = some c) (hname : (F.name == "runtime.NumGoroutine") = false) (hargs : args.length ≤ F.ntmps) (hbd : F.ntmps ≤ DS)
    (h0 : OuterOk S → RunX P w0 S.length F.ntmps none [.it (.code c)] (FPostK P F S R) .normal (env0 args) S) : ACall P w0 f args S R := by
  refine ⟨fun a w => by simp only [callFunc, Sem.run_bind, run_program, Result.andThen_ok, hf, hname, hb]; rfl, fun ι ψ w cargs hR hl hv => ?_⟩
  have h := h0 fun j B hB => hR.ltB hB
  refine (callsIn_wide (n := 0)).1 ?_
  refine callsIn_of_wp_marks (F := Fence.wide) hf hb trivial ?_
  have hE : EnvR ι ψ F.ntmps (env0 args) { tmps := cargs ++ Array.replicate (F.ntmps - cargs.size) undef, defers := [] } := by
    refine ⟨by simp; omega, hbd, ⟨[], [], by simp [env0], rfl, by simp, rfl⟩, fun t => ?_⟩
    simp only [env0]
    split
    · next ht =>
      have : (cargs ++ Array.replicate (F.ntmps - cargs.size) undef).getD t undef = undef := by
        rw [Array.getD_eq_getD_getElem?, Array.getElem?_eq_none (by simp; omega)]; rfl
      rw [this]
      exact .dfr [] [] rfl (by simp)
    · by_cases ht : t < args.length
      · have e1 : args[t]? = some args[t] := List.getElem?_eq_getElem ht
        have ht' : t < cargs.size := by omega
        have e2 : cargs[t]? = some cargs[t] := Array.getElem?_eq_getElem ht'
        rw [e1, Array.getD_eq_getD_getElem?, Array.getElem?_append_left ht', e2]
        exact hv t _ _ e1 e2
      · rw [List.getElem?_eq_none (by omega)]
        exact .junk _
  refine wpIn_mono (h ι ψ w _ hR hE) fun e a' w' hp => ?_
  obtain ⟨ι', ψ', x, env, S', h1, h2, h3, h4, h5⟩ := hp
  have hext : Ext ι ψ ι' ψ' := by rw [← hR.len, List.take_length] at h1; exact h1
  obtain ⟨ds, dvs, d1, d2, d3, d4⟩ := h3.defers
  have ret : ∀ (h5 : ∃ ms S1 vs, env DS = .dfr ms ∧ leaveM ms S' = some S1 ∧ resVs P env S1 F.results.toList = some vs ∧ R (.ret (oneOrTup vs)) S1),
      LeavesInM Fence.wide 0 P F a'.tmps (fun e w' => ∃ ι' ψ' out S', Ext ι ψ ι' ψ' ∧ Rel w0 ι' ψ' S' w' ∧ OutR ι' ψ' out e ∧ R out S') a'.defers .returning w' := by
    rintro ⟨ms, S1, vs, q1, q2, r1, r4⟩
    rw [q1] at d1; cases d1
    rw [d4]
    refine leave_sound (by simp) ds dvs S' S1 w' q2 d2 d3 h2 fun w1 hR1 => ?_
    obtain ⟨cs, q1, q2, q3⟩ := resVs_sound (P := P) hR1 h3 _ vs r1
    have hrun : (results F a'.tmps).run P w1 = .ok (if h : cs.toArray.size = 1 then cs.toArray[0] else .tuple cs.toArray) w1 := by
      unfold results
      rw [Array.mapM_eq_mapM_toList]
      simp only [Sem.run_bind, Sem.run_map]
      erw [q1]
      rfl
    have hv : VR ι' ψ' (oneOrTup vs) (if h : cs.toArray.size = 1 then cs.toArray[0] else .tuple cs.toArray) := by
      match vs, cs, q2, q3 with
      | [], [], _, _ => exact .tup _ _ rfl (by simp)
      | [v], [c], _, q3 => simpa [oneOrTup] using q3 0 v c rfl rfl
      | v1 :: v2 :: vs, c1 :: c2 :: cs, q2, q3 =>
        simp only [oneOrTup, List.size_toArray, List.length_cons]
        rw [dif_neg (by omega)]
        exact .tup _ _ (by simpa using q2) (fun j x c hx hc => q3 j x c hx (by simpa using hc))
      | [], _ :: _, q2, _ => simp at q2
      | [_], [], q2, _ => simp at q2
      | [_], _ :: _ :: _, q2, _ => simp at q2
      | _ :: _ :: _, [], q2, _ => simp at q2
      | _ :: _ :: _, [_], q2, _ => simp at q2
    exact ⟨_, hrun, ι', ψ', .ret _, S1, hext, hR1, hv, r4⟩
  cases x with
  | normal => cases e <;> simp only [XR] at h4; exact ret h5
  | ret => cases e <;> simp only [XR] at h4; exact ret h5
  | exit id => exact h5.elim
  | goto l => exact h5.elim
  | panic v =>
    cases e <;> simp only [XR] at h4
    obtain ⟨c, rfl, hv⟩ := h4
    obtain ⟨ms, S1, q1, q2, r4⟩ := h5
    rw [q1] at d1; cases d1
    show LeavesInM _ _ _ _ _ _ a'.defers _ _
    rw [d4]
    refine leave_sound (by simp) ds dvs S' S1 w' q2 d2 d3 h2 fun w1 hR1 => ?_
    exact ⟨ι', ψ', .panic _, S1, hext, hR1, ⟨c, rfl, hv⟩, r4⟩
theorem f_retK {F : Func} {S0 S2 : List Blk} {env : Env} {R : AOut → List Blk → Prop} {ms vs : List AV} {v : AV} (h0 : env DS = .dfr ms) (h01 : leaveM ms S = some S2) (h1 : resVs P env S2 F.results.toList = some vs) (h3 : oneOrTup vs = v) (h : R (.ret v) S2) : FPostK P F S0 R .ret env S := by
  subst h3
  exact ⟨ms, S2, vs, h0, h01, h1, h⟩
end Go.Fen
namespace Go.Fen
open Go.RowKit
variable {P : Program} {w0 : World} {n0 N : Nat} {r : Option Nat} {Q : APost} {k : List TI} {env : Env} {S : List Blk}
theorem leaf_cells {x : AV} (h : x.leaf = true) : x.cells = [x] := by
  cases x <;> first | rfl | cases h
theorem VR.proPart {ι : List Pl} {ψ : Psi} {cs : List AV} {b o l : Nat} {cv : Nat → Value} (h1 : ∀ j x, cs[j]? = some x → x.leaf = true ∧ ψ.c b (o + j) = some (cv j)) (h2 : ∀ j x, cs[j]? = some x → VR ι ψ x (cv j)) :
    VR ι ψ (.sval false (cs.drop l)) (.slice (some ⟨b, o + l, none⟩) (cs.length - l) (cs.length - l)) := by
  have hlen : (cs.drop l).length = cs.length - l := by simp
  rw [← hlen]
  refine .sval 1 false (cs.drop l) b (o + l) _ (fun i _ => cv (l + i)) (fun i e he => ?_) (Nat.le_refl _) (fun e => by cases e) (fun i e j x he hj => ?_) (fun i e j x he hj => ?_)
  · rw [List.getElem?_drop] at he
    rw [leaf_cells (h1 _ _ he).1]; rfl
  · rw [List.getElem?_drop] at he
    have hf := h1 _ _ he
    rw [leaf_cells hf.1] at hj
    cases j with
    | zero =>
      cases hj
      refine ⟨hf.1, ?_⟩
      rw [← hf.2]; congr 1; omega
    | succ j => simp at hj
  · rw [List.getElem?_drop] at he
    have hf := h1 _ _ he
    rw [leaf_cells hf.1] at hj
    cases j with
    | zero => cases hj; exact h2 _ _ he
    | succ j => simp at hj
theorem x_sliceP {all : Array Oper} {o : Oper} {l : List Oper} {t e : TypeId} {m : Nat} {x lo : Operand} {cs : List AV} {i : Nat} {kk : IntKind} (hg : guardA all env o = some true) (ho : o.op = .slice t x (some lo) none none) (ht : P.underlying t = some (.array m e)) (he : sizeT P e = some 1)
    (hx : evalA w0 env x = .pro cs) (hlo : evalA w0 env lo = .int kk (i : Int)) (hm : cs.length = m) (hi : i ≤ m) (hds : dstOk N o.dst = true)
    (h : RunX P w0 n0 N r (.it (.ops all l) :: k) Q .normal (putA env o.dst (.sval false (cs.drop i))) S) : RunX P w0 n0 N r (.it (.ops all (o :: l)) :: k) Q .normal env S := by
  intro ι ψ w a hR hE
  have hwt := guardA_sound hE hg
  refine wpListIn_do hwt (fun c hc => by rw [hc] at ho; cases ho) ?_
  have hv := hE.eval hR x
  rw [hx] at hv
  have hv2 := hE.eval hR lo
  rw [hlo] at hv2
  generalize hcx : a.eval x = cx at hv
  generalize hcl : a.eval lo = cl at hv2
  cases hv2 with
  | int _ _ =>
  cases hv with
  | pro _ b o' cv h1 h2 =>
    have hsub : (if m = i then (⟨b, o', none⟩ : Addr) else (⟨b, o', none⟩ : Addr).add (i * 1)) = ⟨b, o' + (if m = i then 0 else i), none⟩ := by
      split
      · rfl
      · simp only [Addr.add_lit, Nat.mul_one]
    have hb : (Instr.sliceBounds false m m (some (.int kk (i : Int))) none none).run P w = .ok (i, m, m) w := by
      have hle : (0 : Int) ≤ (i : Int) ∧ (i : Int) ≤ (m : Int) := by omega
      simp [Instr.sliceBounds, Instr.sliceBound, asIntOf, hle]
      intro hh; omega
    have hres : (execOp a.eval o).run P w = .ok (.value (.slice (some ⟨b, o' + (if m = i then 0 else i), none⟩) (m - i) (m - i))) w := by
      rw [← hsub]
      simp [execOp, ho, hcx, hcl, Instr.sliceAt, run_underlying ht, Instr.sureAddr, hb, run_sizeOf he]
    rw [hres]
    have hvv : VR ι ψ (.sval false (cs.drop i)) (.slice (some ⟨b, o' + (if m = i then 0 else i), none⟩) (m - i) (m - i)) := by
      by_cases hmi : m = i
      · subst hmi
        have : cs.drop m = [] := List.drop_eq_nil_of_le (by omega)
        rw [if_pos rfl, this]
        have := VR.sval (ι := ι) (ψ := ψ) 1 false [] b (o' + 0) (m - m) (fun _ _ => undef) (by simp) (by simp) (fun e => by cases e) (by simp) (by simp)
        simpa using this
      · rw [if_neg hmi, ← hm]
        exact VR.proPart h1 h2
    exact KI.mono (h ι ψ _ _ hR (hE.putA hvv hds)) fun e a2 w2 hp => hp
theorem x_frzS {i : KI} {t a : Nat} {S1 : List Blk} {v : AV} (htd : (t == DS) = false) (hS : markFull S a = S1) (hv : conv S1 (frA S1) 4 (env t) = v)
    (h : RunX P w0 n0 N r (.it i :: k) Q .normal (upd env t v) S1) : RunX P w0 n0 N r (.it i :: k) Q .normal env S := by
  subst hS hv
  intro ι ψ w ac hR hE
  obtain ⟨ψ1, hle, hR1⟩ := markFull_sound (w0 := w0) hR a
  have hx : Ext ι ψ ι ψ1 := ⟨(Ext.refl ι ψ).pl, hle⟩
  have hE1 : EnvR ι ψ1 N env ac := hE.mono hx
  have hfr := frozen_full hR1
  have htd' : t ≠ DS := by simpa using htd
  have hE' : EnvR ι ψ1 N (upd env t (conv (markFull S a) (frA (markFull S a)) 4 (env t))) ac := by
    refine ⟨hE1.size, hE1.bound, ?_, fun s => ?_⟩
    · obtain ⟨l, vs, h1, h2, h3, h4⟩ := hE1.defers
      exact ⟨l, vs, by rw [upd, if_neg (Ne.symm htd')]; exact h1, h2, h3, h4⟩
    simp only [upd]
    split
    · next hs =>
      subst hs
      exact conv_sound hR1 (Psi.le_refl _) hfr 4 _ _ (hE1.tmp _)
    · exact hE1.tmp s
  exact KI.mono (h ι ψ1 w ac hR1 hE') fun e a2 w2 hp => hp.chain (hx.take n0)
end Go.Fen
namespace Go.Fen
open Go.RowKit
variable {P : Program} {w0 : World} {n0 N : Nat} {r : Option Nat} {Q : APost} {k : List TI} {env : Env} {S : List Blk}
def ByteCells (c : Array Value) (s : List UInt8) : Prop := ∀ (j : Nat) (b : UInt8), s[j]? = some b → c[j]? = some (.int .u8 (b.toNat : Int))
abbrev bRow (c : Array Value) (e : TypeId) : Blk := .obj (.cells c e (c.size, c.size + 1))
theorem ByteCells.size {c : Array Value} {s : List UInt8} (h : ByteCells c s) : s.length ≤ c.size := by
  cases hs : s.length with
  | zero => omega
  | succ n =>
    have h1 : s[n]? = some s[n] := List.getElem?_eq_getElem (by omega)
    have := (Array.getElem?_eq_some_iff.1 (h n _ h1)).1
    omega
theorem ByteCells.set {c : Array Value} {s : List UInt8} (h : ByteCells c s) (i : Nat) (b : UInt8) : ByteCells (c.setIfInBounds i (.int .u8 (b.toNat : Int))) (s.set i b) := by
  intro j x hx
  have hsz := h.size
  rw [List.getElem?_set] at hx
  rw [Array.getElem?_setIfInBounds]
  by_cases hij : i = j
  · subst hij
    by_cases hl : i < s.length
    · simp only [if_true, hl] at hx
      cases hx
      rw [if_pos rfl, if_pos (by omega)]
    · simp only [if_true, hl, if_false] at hx
      cases hx
  · rw [if_neg hij] at hx
    rw [if_neg hij]
    exact h j x hx
theorem ByteCells.row {c : Array Value} {s : List UInt8} (h : ByteCells c s) : rowBytes c s.length = some s := by
  unfold rowBytes
  rw [if_pos h.size]
  have key : c.toList.take s.length = s.map fun b => Value.int .u8 (b.toNat : Int) := by
    apply List.ext_getElem?
    intro j
    rw [List.getElem?_take, List.getElem?_map]
    by_cases hj : j < s.length
    · rw [if_pos hj, List.getElem?_eq_getElem hj, Array.getElem?_toList]
      exact h j _ (List.getElem?_eq_getElem hj)
    · rw [if_neg hj, List.getElem?_eq_none (by omega)]; rfl
  rw [key]
  clear key h
  induction s with
  | nil => rfl
  | cons b s ih => simp [rbL, ih]
theorem x_obytes {all : Array Oper} {o : Oper} {l : List Oper} {src dst e : TypeId} {u : TypeDesc} {x : Operand} {s : List UInt8} (hg : guardA all env o = some true) (ho : o.op = .convert src dst x) (hs : P.underlying src = some u) (hd : P.underlying dst = some (.slice e)) (he : P.underlying e = some (.int .u8))
    (hx : evalA w0 env x = .str s) (hds : dstOk N o.dst = true) (h : ∀ c : Array Value, ByteCells c s → RunX P w0 n0 N r (.it (.ops all l) :: k) Q .normal (putA env o.dst (.sown S.length 0 s.length)) (S ++ [bRow c e])) : RunX P w0 n0 N r (.it (.ops all (o :: l)) :: k) Q .normal env S := by
  intro ι ψ w a hR hE
  have hw := guardA_sound hE hg
  refine wpListIn_do hw (fun c hc => by rw [hc] at ho; cases ho) ?_
  have hv := hE.eval hR x
  rw [hx] at hv
  generalize hcx : a.eval x = cx at hv
  cases hv with
  | str _ b hb =>
    subst hb
    have hres : (execOp a.eval o).run P w = .ok (.value (.slice (some ⟨w.heap.size, 0, none⟩) b.size (grownCap w b.size 0 e))) (Lib.bytesWorld w e b) := by
      have := Lib.run_convert_string_bytes (P := P) w src dst e b hs hd he
      simp [execOp, ho, hcx, this, Result.andThen]
    rw [hres]
    have hle : ψ.le ψ := Psi.le_refl _
    have hR1 : Rel w0 ι ψ S (Lib.bytesWorld w e b) := hR.grow ((Lib.bytesWorld_below w e b).mono hR.n0) (fun j hj => Lib.bytesWorld_at_old w e b j hj) hle (fun b' o' v e' => .inl e') (fun b' es c e' => .inl e')
    let pl : Pl := ⟨w.heap.size, 0, .slice (some ⟨w.heap.size, 0, none⟩) b.size (grownCap w b.size 0 e), 1⟩
    have hR2 : Rel w0 (ι ++ [pl]) ψ (S ++ [bRow (Lib.bytesCells w e b) e]) (Lib.bytesWorld w e b) := by
      refine hR1.push pl _ ?_ ?_
      · exact ⟨hR.n0, Lib.bytesWorld_at_new w e b, fun _ => ⟨rfl, rfl, _, _, rfl⟩, fun k => hR.psi_new (Nat.le_refl _) k, hR.psim_new (Nat.le_refl _)⟩
      · intro k hk i C q hC hq hk2
        simp only [bRow, Blk.at, Option.some.injEq] at hk
        subst hk
        have := ((hR.blk i C q hC hq).at_lt hk2).2
        simp only [pl] at this
        omega
    have hc : ByteCells (Lib.bytesCells w e b) b.data.toList := by
      intro j x hx
      have hj := (List.getElem?_eq_some_iff.1 hx).1
      have hjs : j < b.data.size := by simpa using hj
      unfold Lib.bytesCells
      rw [Array.getElem?_append_left (by simpa using hjs), Array.getElem?_map]
      simp only [Array.getElem?_toList] at hx
      rw [hx]
      rfl
    have hx' := Ext.push ι ψ pl
    have hvv : VR (ι ++ [pl]) ψ (.sown S.length 0 b.data.toList.length) (.slice (some ⟨w.heap.size, 0, none⟩) b.size (grownCap w b.size 0 e)) := by
      have hl : b.data.toList.length = b.size := by rw [Array.length_toList]; rfl
      rw [hl]
      refine .sown _ _ _ _ _ pl ?_ (Nat.zero_le _) (fun _ => rfl)
      rw [← hR.len]
      simp
    exact KI.mono (h _ hc (ι ++ [pl]) ψ _ _ hR2 ((hE.mono hx').putA hvv hds)) fun e a2 w2 hp => hp.chain (hx'.take n0)
theorem x_oindex {all : Array Oper} {o : Oper} {l : List Oper} {t e e' : TypeId} {x ix : Operand} {a n i : Nat} {kk : IntKind} {c : Array Value} (hg : guardA all env o = some true) (ho : o.op = .indexAddr t x ix) (ht : P.underlying t = some (.slice e)) (he : sizeT P e = some 1)
    (hx : evalA w0 env x = .sown a 0 n) (hix : evalA w0 env ix = .int kk (i : Int)) (hi : i < n) (hS : S[a]? = some (bRow c e')) (hds : dstOk N o.dst = true)
    (h : RunX P w0 n0 N r (.it (.ops all l) :: k) Q .normal (putA env o.dst (.oel a 0 i 0)) S) : RunX P w0 n0 N r (.it (.ops all (o :: l)) :: k) Q .normal env S := by
  intro ι ψ w ac hR hE
  have hw := guardA_sound hE hg
  refine wpListIn_do hw (fun c hc => by rw [hc] at ho; cases ho) ?_
  have hv := hE.eval hR x
  rw [hx] at hv
  have hv2 := hE.eval hR ix
  rw [hix] at hv2
  generalize hcx : ac.eval x = cx at hv
  generalize hcl : ac.eval ix = cl at hv2
  cases hv2 with
  | int _ _ =>
  cases hv with
  | sown _ _ _ ad cap pl hpl hgl hs =>
    obtain ⟨_, _, hok, _, _⟩ := hR.blk a _ pl hS hpl
    obtain ⟨hg0, hs1, n', cap', hsv⟩ := hok rfl
    have hq := hs hg0.symm
    rw [hsv] at hq
    cases hq
    have hb : (0 : Int) ≤ (i : Int) ∧ (i : Int) < (n : Int) := by omega
    have hni : ¬ n ≤ i := by omega
    have hres : (execOp ac.eval o).run P w = .ok (.value (.pointer (some ⟨pl.blk, i, none⟩))) w := by
      simp [execOp, ho, hcx, hcl, Instr.indexAt, asIntOf, run_underlying ht, run_sizeOf he, hb, hni, Addr.add_lit]
    rw [hres]
    have hvv : VR ι ψ (.oel a 0 i 0) (.pointer (some ⟨pl.blk, i, none⟩)) := by
      refine .oel a 0 i 0 _ pl hpl hgl fun _ => ⟨pl.blk, by rw [hsv]; rfl, ?_⟩
      rw [hs1]; simp
    exact KI.mono (h ι ψ _ _ hR (hE.putA hvv hds)) fun e a2 w2 hp => hp
theorem x_ostore {all : Array Oper} {o : Oper} {l : List Oper} {t e : TypeId} {x y : Operand} {a i : Nat} {b : UInt8} {c : Array Value} (hg : guardA all env o = some true) (ho : o.op = .store t x y) (ht : sizeT P t = some 1)
    (hx : evalA w0 env x = .oel a 0 i 0) (hy : evalA w0 env y = .int .u8 (b.toNat : Int)) (hS : S[a]? = some (bRow c e)) (hi : i < c.size) (hds : dstOk N o.dst = true)
    (h : RunX P w0 n0 N r (.it (.ops all l) :: k) Q .normal (putA env o.dst (.tup [])) (S.set a (bRow (c.setIfInBounds i (.int .u8 (b.toNat : Int))) e))) : RunX P w0 n0 N r (.it (.ops all (o :: l)) :: k) Q .normal env S := by
  intro ι ψ w ac hR hE
  have hw := guardA_sound hE hg
  refine wpListIn_do hw (fun c hc => by rw [hc] at ho; cases ho) ?_
  have hv := hE.eval hR x
  rw [hx] at hv
  have hv2 := hE.eval hR y
  rw [hy] at hv2
  generalize hcx : ac.eval x = cx at hv
  generalize hcl : ac.eval y = cl at hv2
  cases hv2 with
  | int _ _ =>
  cases hv with
  | oel _ _ _ _ ad pl hpl hgl hs =>
    obtain ⟨h0, h1, hok, h3, h4⟩ := hR.blk a _ pl hS hpl
    obtain ⟨hg0, hs1, n', cap', hsv⟩ := hok rfl
    obtain ⟨bb, hbb, rfl⟩ := hs hg0.symm
    rw [hsv] at hbb
    simp only [Value.ownBlock, Option.some.injEq] at hbb
    subst hbb
    have hcx' : ac.eval x = .pointer (some ⟨pl.blk, i, none⟩) := by rw [hcx, hs1]; simp
    have hcell : w.cell? ⟨pl.blk, i, none⟩ = some c[i] := by
      simp [World.cell?, h1, hi]
    have hfz : w.frozen? ⟨pl.blk, i, none⟩ = false := by
      simp [World.frozen?, h1]
      omega
    have hst := run_storeCells_cells (P := P) pl.blk i [.int .u8 (b.toNat : Int)] 0 w (fun j hj => by
      have : j = 0 := by simpa using hj
      subst this; simp [hcell]) (fun j hj => by
      have : j = 0 := by simpa using hj
      subst this; simp [hfz]) (fun v hv => by
      have : v = .int .u8 (b.toNat : Int) := by simpa using hv
      subst this; rfl)
    have hw' : w.setCells pl.blk (i + 0) [.int .u8 (b.toNat : Int)] = w.setCell ⟨pl.blk, i, none⟩ (.int .u8 (b.toNat : Int)) := rfl
    rw [hw'] at hst
    have hres : (execOp ac.eval o).run P w = .ok .skip (w.setCell ⟨pl.blk, i, none⟩ (.int .u8 (b.toNat : Int))) := by
      simp [execOp, ho, hcx', hcl, Instr.storeAt, Instr.sureAddr, storeVar, run_sizeOf ht, hst, Value.cells]
    rw [hres]
    have hset : ι.set a pl = ι := set_self hpl
    have hnew : (w.setCell ⟨pl.blk, i, none⟩ (.int .u8 (b.toNat : Int))).heap[pl.blk]? = some (.cells (c.setIfInBounds i (.int .u8 (b.toNat : Int))) e (c.size, c.size + 1)) := by
      show (w.heap.modify pl.blk _)[pl.blk]? = _
      rw [Array.getElem?_modify, if_pos rfl, h1]
      rfl
    have hoth : ∀ k, k ≠ pl.blk → (w.setCell ⟨pl.blk, i, none⟩ (.int .u8 (b.toNat : Int))).heap[k]? = w.heap[k]? := fun k hk => Below.heap_setCell w _ _ k hk
    have key := hR.update (w' := w.setCell ⟨pl.blk, i, none⟩ (.int .u8 (b.toNat : Int))) (ψ' := ψ) (B' := bRow (c.setIfInBounds i (.int .u8 (b.toNat : Int))) e) (pl' := pl) hS hpl ⟨rfl, rfl, rfl, by simp [World.setCell], fun k hk => hoth k (by omega)⟩
      (fun k hk _ => hoth k (fun e => hk (by simp [bRow, Blk.at, e]))) (by rw [hset]; exact Ext.refl _ _) (by
        rw [hset]
        refine ⟨h0, ?_, fun _ => ⟨hg0, hs1, _, _, hsv⟩, h3, h4⟩
        rw [hnew]
        simp) (fun k hk => .inl (by simpa [bRow, Blk.at] using hk)) (fun b o v e => .inl ⟨e, fun hk => by
        simp [bRow, Blk.at] at hk; subst hk; rw [h3 o] at e; cases e⟩) rfl
    rw [hset] at key
    exact KI.mono (h ι ψ _ _ key (hE.putA (.tup _ _ rfl (by simp)) hds)) fun e a2 w2 hp => hp
end Go.Fen
