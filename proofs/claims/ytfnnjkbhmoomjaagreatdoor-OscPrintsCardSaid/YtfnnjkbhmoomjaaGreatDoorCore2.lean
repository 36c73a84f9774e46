/- YtfnnjkbhmoomjaaGreatDoorCore2. Texts of the proof of a law about texts: a layer of abstract values above the worlds, the types, the walks of the functions that the law reaches, the law and its card. Own work of an AI agent. -/
import Derived.Test.YtfnnjkbhmoomjaaGreatDoorCore1
import Derived.ProofKit
import Derived.Lib.LaidTab
import Derived.Carry
import Derived.Deep.DeepHandedRow
set_option linter.all false
set_option linter.unusedVariables false
set_option linter.unusedSimpArgs false
namespace Go.Fen
open Go.RowKit
theorem x_stopR (n : Nat) {P : Program} {w0 : World} {n0 N : Nat} {r : Option Nat} {Q : APost} {k : List TI} {env : Env} {S : List Blk} {ops : Array Oper} {b : Bool} (hf : False) : RunX P w0 n0 N r (.it (.code (.region n ops b)) :: k) Q .normal env S := hf.elim
section
variable {P : Program} {w0 : World} {n0 N : Nat} {r : Option Nat} {Q : APost} {k : List TI} {ops : Array Oper}
def setAll (listed : Array Bool) : List Nat → Array Bool
  | [] => listed
  | i :: q => setAll (listed.setIfInBounds i true) q
def envAll (ds : Nat → Nat) (env : Env) (n : Nat) : List Nat → Env
  | [] => env
  | i :: q => envAll ds (upd env (ds i) (.own n 0)) (n + 1) q
def blkAll (S : List Blk) (z : Blk) : List Nat → List Blk
  | [] => S
  | _ :: q => blkAll (S ++ [z]) z q
def eachP : Nat → List Nat → (List Nat → Prop) → Prop
  | 0, _, K => K []
  | k + 1, A, K => A.foldr (fun i acc => eachP k (A.erase i) (fun q => K (i :: q)) ∧ acc) True
def allocsOk (N : Nat) (ops : Array Oper) (T : TypeId) (ds : Nat → Nat) : Nat → Array Bool → List Nat → Bool
  | 0, _, _ => true
  | k + 1, listed, A => decide (Region.ready .any ops listed = A) && !A.isEmpty && A.all (fun i => match ops[i]? with
      | some o => o.guard.isNone && dstOk N o.dst && decide (o.dst = some (ds i)) && (match o.op with
        | .alloc T' => T' == T
        | _ => false)
      | none => false) && A.all fun i => allocsOk N ops T ds k (listed.setIfInBounds i true) (A.erase i)
theorem each_mem {A : List Nat} {F : Nat → Prop} (h : A.foldr (fun i acc => F i ∧ acc) True) : ∀ i ∈ A, F i := by
  induction A with
  | nil => intro i hi; cases hi
  | cons a A ih =>
    intro i hi
    rcases List.mem_cons.1 hi with rfl | hi
    · exact h.1
    · exact ih h.2 i hi
theorem protL_grow {j : Nat} {S : List Blk} {z : Blk} : ∀ {prot : List (Nat × List Nat)}, (∀ p ∈ prot, ∀ a ∈ p.2, a < S.length) → ProtL ops j prot S (S ++ [z])
  | [], _ => trivial
  | p :: prot, h => ⟨fun _ a ha => by rw [List.getElem?_append_left (h p (List.mem_cons_self ..) a ha)], protL_grow fun p' hp => h p' (List.mem_cons_of_mem _ hp)⟩
theorem protL_all {j : Nat} {S S' : List Blk} : ∀ {prot : List (Nat × List Nat)}, (∀ p ∈ prot, ∀ a ∈ p.2, S'[a]? = S[a]?) → ProtL ops j prot S S'
  | [], _ => trivial
  | p :: prot, h => ⟨fun _ => h p (List.mem_cons_self ..), protL_all fun p' hp => h p' (List.mem_cons_of_mem _ hp)⟩
theorem d_allocs (ds : Nat → Nat) {T : TypeId} {z : Blk} {f : Nat} {prot : List (Nat × List Nat)} (hz : ∀ (S : List Blk) (ρ : Operand → AV), stepF P S ρ (.alloc T) = some (.own S.length 0, S ++ [z])) :
    ∀ (m : Nat) (A : List Nat) (listed : Array Bool) (env : Env) (S : List Blk) (_ : allocsOk N ops T ds m listed A = true) (_ : ∀ p ∈ prot, ∀ a ∈ p.2, a < S.length)
      (_ : eachP m A fun q => AnyP P w0 n0 N r ops k Q f (setAll listed q) prot (envAll ds env S.length q) (blkAll S z q)), AnyP P w0 n0 N r ops k Q (f + m) listed prot env S := by
  intro m
  induction m with
  | zero => intro A listed env S _ _ h; exact h
  | succ m ih =>
    intro A listed env S hok hp h
    simp only [allocsOk, Bool.and_eq_true, decide_eq_true_eq, List.all_eq_true, Bool.not_eq_true', List.isEmpty_eq_false_iff] at hok
    obtain ⟨⟨⟨hr, hne⟩, ho⟩, hrec⟩ := hok
    refine ⟨fun e => absurd (hr.symm.trans e) hne, fun i hi => ?_⟩
    rw [hr] at hi
    have ho := ho i hi
    have hrec := hrec i hi
    have hk := each_mem h i hi
    split at ho
    · next o hoi =>
      simp only [Bool.and_eq_true, Option.isNone_iff_eq_none, decide_eq_true_eq] at ho
      obtain ⟨⟨⟨hg, hd⟩, hds⟩, hop⟩ := ho
      split at hop
      · next T' hop' =>
        obtain rfl : T' = T := by simpa using hop
        refine ⟨o, hoi, hd, .inr (.inl ⟨by simp [guardA, hg], .own S.length 0, S ++ [z], by rw [hop']; exact hz _ _, protL_grow hp, ?_⟩)⟩
        refine ih (A.erase i) _ _ _ hrec (fun p hp' a ha => by have := hp p hp' a ha; simp; omega) ?_
        simp only [setAll, envAll, blkAll] at hk
        simpa [hds, putA] using hk
      · cases hop
    · cases ho
end
end Go.Fen
namespace Go.Fen
open Go.RowKit
variable {P : Program} {w0 : World} {n0 N : Nat} {r : Option Nat} {Q : APost} {k : List TI} {env : Env} {S : List Blk}
end Go.Fen
namespace Go.Fen
open Go.RowKit Go.ChangeShapes
inductive Sk where
  | int (k : IntKind)
  | bool
  | str
  | sl (e : Sk)
  | nil
  | cons (a : Sk) (r : Sk)
namespace Sk
def size : Sk → Nat
  | nil => 0
  | cons a r => a.size + r.size
  | _ => 1
def noSl : Sk → Bool
  | sl _ => false
  | cons a r => a.noSl && r.noSl
  | _ => true
def isAgg : Sk → Bool
  | nil | cons _ _ => true
  | _ => false
def mk (s : Sk) (cs : List AV) : AV := if s.isAgg then .agg cs else cs.headD .junk
def has : Sk → List AV → Prop
  | int k, xs => ∃ n, xs = [.int k n] ∧ (Lit.int k n).wf = true
  | bool, xs => ∃ b, xs = [.bool b]
  | str, xs => ∃ s, xs = [.str s] ∧ s.length ≤ maxLen
  | sl e, xs => ∃ els : List (List AV), xs = [.sval false (els.map e.mk)] ∧ els.length ≤ maxLen ∧ ∀ y ∈ els, e.has y
  | nil, xs => xs = []
  | cons a r, xs => ∃ y z, xs = y ++ z ∧ a.has y ∧ r.has z
def rep (s : Sk) : Nat → Sk
  | 0 => nil
  | n + 1 => cons s (rep s n)
def fields (P : Program) (f : TypeId → Option Sk) : Nat → List Field → Option Sk
  | _, [] => some nil
  | o, x :: l => match f x.type with
    | some s => if x.offset = o ∧ P.cellsOf x.type = s.size then (fields P f (o + s.size) l).map (cons s) else none
    | none => none
def of (P : Program) : Nat → TypeId → Option Sk
  | 0, _ => none
  | n + 1, t => match P.underlying t with
    | some (.int k) => some (.int k)
    | some .bool => some .bool
    | some .string => some .str
    | some (.slice e) => match of P n e with
      | some s => if s.noSl = true ∧ P.cellsOf e = s.size ∧ 0 < s.size then some (sl s) else none
      | none => none
    | some (.struct fs) => match fields P (of P n) 0 fs.toList with
      | some s => if P.cellsOf t = s.size then some s else none
      | none => none
    | some (.array m e) => match of P n e with
      | some s => if P.cellsOf e = s.size ∧ P.cellsOf t = m * s.size then some (rep s m) else none
      | none => none
    | _ => none
theorem has_size : ∀ {s : Sk} {xs : List AV}, s.has xs → xs.length = s.size
  | int _, _, ⟨_, h, _⟩ => by subst h; rfl
  | bool, _, ⟨_, h⟩ => by subst h; rfl
  | str, _, ⟨_, h, _⟩ => by subst h; rfl
  | sl _, _, ⟨_, h, _⟩ => by subst h; rfl
  | nil, _, h => by cases h; rfl
  | cons _ _, _, ⟨y, z, h, h1, h2⟩ => by subst h; simp [size, has_size h1, has_size h2]
theorem mk_cells {s : Sk} {xs : List AV} (h : s.has xs) : (s.mk xs).cells = xs := by
  cases s <;> try rfl
  · obtain ⟨n, rfl, _⟩ := h; rfl
  · obtain ⟨n, rfl⟩ := h; rfl
  · obtain ⟨n, rfl, _⟩ := h; rfl
  · obtain ⟨n, rfl, _⟩ := h; rfl
end Sk
def psi0 (W : World) : Psi := ⟨fun b o => W.cell? ⟨b, o, none⟩, fun _ => none⟩
theorem Rel.start (W : World) : Rel W [] (psi0 W) [] W := by
  refine ⟨Below.refl _ _, fun _ _ _ h => h, fun b es c h => (by cases h), rfl, fun i B pl h => (by simp at h), fun _ _ _ _ h => h, fun i j B C p q k h => (by simp at h)⟩
section
variable {H : Type} {enc : TypeId × Value → H} {P : Program} {W : World} {base : Nat} {spare : Nat → Bool} {held : Bool}
def CellsR (W : World) (xs : List AV) (cs : List Value) : Prop := xs.length = cs.length ∧ ∀ (j : Nat) (x : AV) (v : Value), xs[j]? = some x → cs[j]? = some v → x.leaf = true ∧ VR [] (psi0 W) x v
theorem CellsR.one {x : AV} {v : Value} (hl : x.leaf = true) (h : VR [] (psi0 W) x v) : CellsR W [x] [v] :=
  ⟨rfl, fun j y u h1 h2 => by
    cases j with
    | zero => cases h1; cases h2; exact ⟨hl, h⟩
    | succ j => simp at h1⟩
theorem CellsR.append {xs ys : List AV} {cs ds : List Value} (h : CellsR W xs cs) (h' : CellsR W ys ds) : CellsR W (xs ++ ys) (cs ++ ds) := by
  refine ⟨by simp [h.1, h'.1], fun j x v h1 h2 => ?_⟩
  by_cases hj : j < xs.length
  · rw [List.getElem?_append_left hj] at h1
    rw [List.getElem?_append_left (by rw [← h.1]; exact hj)] at h2
    exact h.2 j x v h1 h2
  · rw [List.getElem?_append_right (by omega)] at h1
    rw [List.getElem?_append_right (by rw [← h.1]; omega), ← h.1] at h2
    exact h'.2 _ x v h1 h2
def spotFree (cs : List Value) : Prop := ∀ v ∈ cs, ∀ a n c, v = .slice (some a) n c → a.spot = none
theorem cells?_get {a : Addr} {n : Nat} {l : List Value} (h : W.cells? base a n = some l) : l.length = n ∧ ∀ j v, l[j]? = some v → W.cell? (a.add j) = some v := by
  unfold World.cells? at h
  split at h
  · refine ⟨by simpa using Lib.mapM_length h, fun j v hv => ?_⟩
    have hj : j < n := by have := (List.getElem?_eq_some_iff.1 hv).1; have h2 := Lib.mapM_length h; simp at h2; omega
    obtain ⟨b, hb, hf⟩ := Lib.mapM_at h j j (by simp [hj])
    rw [hv] at hb; cases hb
    exact hf
  · cases h
theorem seg {cs : List Value} {o n m : Nat} (h : cs.length = o + (n + m)) : (cs.drop o).take n ++ cs.drop (o + n) = cs.drop o := by
  rw [← List.drop_drop, List.take_append_drop]
theorem open_fields {n : Nat} {fuel : Nat} (ih : ∀ (t : TypeId) (s : Sk) (cs : List Value) (x : DataW H × List MemPlace), Sk.of P n t = some s → DataW.trod enc P W base spare held fuel t cs = some x → (s.noSl = true ∨ spotFree cs) → cs.length = s.size ∧ ∃ xs, s.has xs ∧ CellsR W xs cs) :
    ∀ (fs : List Field) (o : Nat) (s : Sk) (cs : List Value) (r : List (DataW H × List MemPlace)), Sk.fields P (Sk.of P n) o fs = some s → (fs.mapM fun f => DataW.trod enc P W base spare held fuel f.type ((cs.drop f.offset).take (P.cellsOf f.type))) = some r →
      cs.length = o + s.size → (s.noSl = true ∨ spotFree cs) → ∃ xs, s.has xs ∧ CellsR W xs (cs.drop o) := by
  intro fs
  induction fs with
  | nil =>
    intro o s cs r hs _ hl _
    cases hs
    refine ⟨[], rfl, ?_⟩
    rw [List.drop_of_length_le (by simp [Sk.size] at hl; omega)]
    exact ⟨rfl, fun j x v h => by simp at h⟩
  | cons f fs ihf =>
    intro o s cs r hs hm hl hsp
    simp only [Sk.fields] at hs
    split at hs
    · next s1 h1 =>
      split at hs
      · next hc =>
        obtain ⟨hc1, hc2⟩ := hc
        obtain ⟨s2, h2, rfl⟩ := Option.map_eq_some_iff.1 hs
        simp only [List.mapM_cons, Option.bind_eq_bind, Option.bind_eq_some_iff, Option.pure_def, Option.some.injEq] at hm
        obtain ⟨b, hb, r', hr', rfl⟩ := hm
        simp only [Sk.size] at hl
        rw [hc1, hc2] at hb
        obtain ⟨_, ys, hy, hyr⟩ := ih f.type s1 _ b h1 hb (hsp.imp (fun h => (by simp [Sk.noSl] at h; exact h.1)) fun h v hv => h v (List.mem_of_mem_drop (List.mem_of_mem_take hv)))
        obtain ⟨zs, hz, hzr⟩ := ihf (o + s1.size) s2 cs r' h2 hr' (by omega) (hsp.imp (fun h => (by simp [Sk.noSl] at h; exact h.2)) id)
        refine ⟨ys ++ zs, ⟨ys, zs, rfl, hy, hz⟩, ?_⟩
        rw [← seg (o := o) (n := s1.size) (m := s2.size) (by omega)]
        exact hyr.append hzr
      · cases hs
    · cases hs
theorem open_rep {s : Sk} {c : Nat} (hc : c = s.size) {g : List Value → Option (DataW H × List MemPlace)} (ih : ∀ (cs : List Value) (x : DataW H × List MemPlace), g cs = some x → (s.noSl = true ∨ spotFree cs) → cs.length = s.size ∧ ∃ xs, s.has xs ∧ CellsR W xs cs) :
    ∀ (m k : Nat) (cs : List Value), (∀ i, i < m → ∃ x, g ((cs.drop ((k + i) * c)).take c) = some x) → cs.length = (k + m) * c → (m = 0 ∨ s.noSl = true ∨ spotFree cs) → ∃ xs, (s.rep m).has xs ∧ CellsR W xs (cs.drop (k * c)) := by
  intro m
  induction m with
  | zero =>
    intro k cs _ hl _
    refine ⟨[], rfl, ?_⟩
    rw [List.drop_of_length_le (by simp at hl; omega)]
    exact ⟨rfl, fun j x v h => by simp at h⟩
  | succ m ihm =>
    intro k cs hm hl hsp
    obtain ⟨x, hx⟩ := hm 0 (by omega)
    simp only [Nat.add_zero] at hx
    obtain ⟨_, ys, hy, hyr⟩ := ih _ x hx ((hsp.resolve_left (by omega)).imp id fun h v hv => h v (List.mem_of_mem_drop (List.mem_of_mem_take hv)))
    obtain ⟨zs, hz, hzr⟩ := ihm (k + 1) cs (fun i hi => by
      obtain ⟨x, hx⟩ := hm (i + 1) (by omega)
      exact ⟨x, by rw [show k + 1 + i = k + (i + 1) by omega]; exact hx⟩) (by rw [hl]; congr 1; omega) (.inr (hsp.resolve_left (by omega)))
    refine ⟨ys ++ zs, ⟨ys, zs, rfl, hy, hz⟩, ?_⟩
    have hk : (k + 1) * c = k * c + c := by rw [Nat.add_mul, Nat.one_mul]
    rw [hk] at hzr
    have hl2 : cs.length = k * c + (c + m * c) := by rw [hl, show k + (m + 1) = k + 1 + m by omega, Nat.add_mul, hk]; omega
    rw [← seg (o := k * c) (n := c) (m := m * c) hl2]
    exact hyr.append hzr
theorem add_add {a : Addr} (h : a.spot = none) (i j : Nat) : (a.add i).add j = ⟨a.block, a.off + i + j, none⟩ := by
  obtain ⟨b, o, s⟩ := a
  simp only at h
  subst h
  unfold Addr.add
  by_cases hi : i = 0 <;> by_cases hj : j = 0 <;> simp [hi, hj]
theorem rep_size (s : Sk) : ∀ m, (s.rep m).size = m * s.size
  | 0 => by simp [Sk.rep, Sk.size]
  | m + 1 => by simp [Sk.rep, Sk.size, rep_size s m, Nat.add_mul]; omega
theorem open_cells : ∀ (n : Nat) (t : TypeId) (s : Sk) (fuel : Nat) (cs : List Value) (x : DataW H × List MemPlace), Sk.of P n t = some s → DataW.trod enc P W base spare held fuel t cs = some x → (s.noSl = true ∨ spotFree cs) → cs.length = s.size ∧ ∃ xs, s.has xs ∧ CellsR W xs cs := by
  intro n
  induction n with
  | zero => intro t s fuel cs x h; cases h
  | succ n ih =>
    intro t s fuel cs x hs ht hsp
    cases fuel with
    | zero => simp [DataW.trod] at ht
    | succ fuel =>
    simp only [Sk.of] at hs
    split at hs
    · next k hu =>
      cases hs
      simp only [DataW.trod, hu] at ht
      match cs, ht with
      | [.int k' m], ht =>
        simp only at ht
        split at ht
        · next h => obtain ⟨rfl, hw⟩ := h; exact ⟨rfl, _, ⟨m, rfl, hw⟩, .one rfl (.int _ _)⟩
        · cases ht
    · next hu =>
      cases hs
      simp only [DataW.trod, hu] at ht
      match cs, ht with
      | [.bool b], ht => exact ⟨rfl, _, ⟨b, rfl⟩, .one rfl (.bool _)⟩
    · next hu =>
      cases hs
      simp only [DataW.trod, hu] at ht
      match cs, ht with
      | [.string b], ht =>
        simp only at ht
        split at ht
        · next h => exact ⟨rfl, _, ⟨b.data.toList, rfl, by simpa using h⟩, .one rfl (.str _ _ rfl)⟩
        · cases ht
    · next e hu =>
      split at hs
      · next s1 h1 =>
        split at hs
        · next hc =>
          obtain ⟨hn, hce, hpos⟩ := hc
          cases hs
          simp only [DataW.trod, hu] at ht
          match cs, ht with
          | [.slice none 0 0], ht => exact ⟨rfl, _, ⟨[], rfl, by simp, by simp⟩, .one rfl (.svnil _)⟩
          | [.slice (some a) len cap], ht =>
            simp only at ht
            split at ht
            · next hle =>
              obtain ⟨_, hlc, hcm⟩ := hle
              obtain ⟨els, hels, _⟩ := Option.bind_eq_some_iff.1 ht
              have hlen : els.length = len := by simpa using Lib.mapM_length hels
              have hspot : a.spot = none := by
                rcases hsp with h | h
                · simp [Sk.noSl] at h
                · exact h _ (List.mem_singleton.2 rfl) a len cap rfl
              have each : ∀ i, ∃ q : List AV × List Value, i < len → s1.has q.1 ∧ CellsR W q.1 q.2 ∧ W.cells? base (a.add (i * s1.size)) s1.size = some q.2 := by
                intro i
                by_cases hi : i < len
                · obtain ⟨y, _, hy⟩ := Lib.mapM_at hels i i (by simp [hi])
                  obtain ⟨ds, hd, hy⟩ := Option.bind_eq_some_iff.1 hy
                  rw [hce] at hd
                  obtain ⟨_, xs, hx, hxr⟩ := ih e s1 fuel ds y h1 hy (.inl hn)
                  exact ⟨(xs, ds), fun _ => ⟨hx, hxr, hd⟩⟩
                · exact ⟨([], []), fun h => absurd h hi⟩
              obtain ⟨f, hf⟩ := Classical.skolem.1 each
              have hL : (((List.range len).map fun i => (f i).1).map s1.mk).length = len := by simp
              have get : ∀ (i : Nat) (e : AV), (((List.range len).map fun i => (f i).1).map s1.mk)[i]? = some e → i < len ∧ e.cells = (f i).1 := by
                intro i e he
                have hi : i < len := by have := (List.getElem?_eq_some_iff.1 he).1; omega
                simp only [List.map_map, List.getElem?_map] at he
                rw [List.getElem?_range hi] at he
                cases he
                exact ⟨hi, Sk.mk_cells (hf i hi).1⟩
              have at' : ∀ (i : Nat) (e : AV) (j : Nat) (x : AV), (((List.range len).map fun i => (f i).1).map s1.mk)[i]? = some e → e.cells[j]? = some x → x.leaf = true ∧ (psi0 W).c a.block (a.off + i * s1.size + j) = some ((f i).2.getD j undef) ∧ VR [] (psi0 W) x ((f i).2.getD j undef) := by
                intro i e j x he hx
                obtain ⟨hi, hc⟩ := get i e he
                rw [hc] at hx
                obtain ⟨g1, g2, g3⟩ := hf i hi
                obtain ⟨v, hv⟩ : ∃ v, (f i).2[j]? = some v := ⟨_, List.getElem?_eq_getElem (by rw [← g2.1]; exact (List.getElem?_eq_some_iff.1 hx).1)⟩
                obtain ⟨k1, k2⟩ := g2.2 j x v hx hv
                have k3 := (cells?_get g3).2 j v hv
                have : (f i).2.getD j undef = v := by simp [List.getD, hv]
                rw [this]
                refine ⟨k1, ?_, k2⟩
                rw [add_add hspot] at k3
                exact k3
              refine ⟨rfl, _, ⟨(List.range len).map fun i => (f i).1, rfl, by simpa using Nat.le_trans hlc hcm, fun y hy => ?_⟩, .one rfl ?_⟩
              · obtain ⟨i, hi, rfl⟩ := List.mem_map.1 hy
                exact (hf i (by simpa using hi)).1
              · have key := VR.sval (ι := []) (ψ := psi0 W) s1.size false (((List.range len).map fun i => (f i).1).map s1.mk) a.block a.off cap (fun i j => (f i).2.getD j undef) (fun i e he => ?_) (by omega) (by simp) (fun i e j x he hx => ⟨(at' i e j x he hx).1, (at' i e j x he hx).2.1⟩) (fun i e j x he hx => (at' i e j x he hx).2.2)
                · rw [hL] at key
                  rw [show (some a : Option Addr) = some ⟨a.block, a.off, none⟩ by rw [← hspot]]
                  exact key
                · obtain ⟨hi, hc⟩ := get i e he
                  rw [hc]; exact Sk.has_size (hf i hi).1
            · cases ht
        · cases hs
      · cases hs
    · next fs hu =>
      split at hs
      · next s1 h1 =>
        split at hs
        · next hc =>
          have hs' := Option.some.inj hs
          subst hs'
          simp only [DataW.trod, hu] at ht
          split at ht
          · next hl =>
            obtain ⟨xs, hm, _⟩ := Option.map_eq_some_iff.1 ht
            obtain ⟨ys, hy, hyr⟩ := open_fields (fun t s cs x => ih t s fuel cs x) fs.toList 0 s1 cs xs h1 hm (by omega) hsp
            exact ⟨by omega, ys, hy, by simpa using hyr⟩
          · cases ht
        · cases hs
      · cases hs
    · next m e hu =>
      split at hs
      · next s1 h1 =>
        split at hs
        · next hc =>
          obtain ⟨hc1, hc2⟩ := hc
          have hs' := Option.some.inj hs
          subst hs'
          simp only [DataW.trod, hu] at ht
          split at ht
          · next hl =>
            obtain ⟨xs, hm, _⟩ := Option.map_eq_some_iff.1 ht
            have hsp' : m = 0 ∨ s1.noSl = true ∨ spotFree cs := by
              cases m with
              | zero => exact .inl rfl
              | succ m =>
                right
                rcases hsp with h | h
                · simp only [Sk.rep, Sk.noSl, Bool.and_eq_true] at h; exact .inl h.1
                · exact .inr h
            obtain ⟨ys, hy, hyr⟩ := open_rep (s := s1) hc1 (g := DataW.trod enc P W base spare held fuel e) (fun cs x hx hs => ih e s1 fuel cs x h1 hx hs) m 0 cs (fun i hi => by
              obtain ⟨y, _, hy⟩ := Lib.mapM_at hm i i (by simp [hi])
              exact ⟨y, by simpa using hy⟩) (by rw [hl, hc2, hc1]; simp) hsp'
            refine ⟨by rw [hl, hc2, rep_size], ys, hy, by simpa using hyr⟩
          · cases ht
        · cases hs
      · cases hs
    · cases hs
end
end Go.Fen
namespace Go.Fen
open Go.RowKit Go.ChangeShapes
section
variable {H : Type} {enc : TypeId × Value → H} {P : Program} {W : World} {base : Nat} {spare : Nat → Bool} {held : Bool}
theorem slice_spot {r : Reach} {u : TypeId} {a : Addr} {n c : Nat} (h : Cell.okWide P W r base u (.slice (some a) n c)) : a.spot = none := by
  have h2 : Cell.ok P W r base u (.slice (some a) n c) := by
    unfold Cell.okWide at h
    split at h <;> first | exact h | (rename_i h3; cases h3) | (rename_i h3 h4; cases h4)
  unfold Cell.ok at h2
  split at h2 <;> try (rename_i h3 h4; cases h4)
  · exact h2.2.2.2.1
  · cases h2
theorem openArg {b2 n : Nat} {t : TypeId} {s : Sk} {v : Value} {d : DataW H} {ps : List MemPlace} (hs : Sk.of P n t = some s) (h : DataW.Trod enc P W base spare held t v d ps) (hok : Value.okWide P W .any b2 t v) : ∃ xs, s.has xs ∧ VR [] (psi0 W) (s.mk xs) v := by
  obtain ⟨fuel, ht⟩ := h
  unfold Value.okWide at hok
  by_cases hag : (∃ fs, P.underlying t = some (.struct fs)) ∨ ∃ m e, P.underlying t = some (.array m e)
  · have hv : ∃ cs, v = .agg cs ∧ cs.size = P.cellsOf t ∧ Row.okWide P W .any b2 t cs := by
      rcases hag with ⟨fs, hu⟩ | ⟨m, e, hu⟩ <;> rw [hu] at hok <;> exact hok
    obtain ⟨cs, rfl, _, ts, _, _, hrow⟩ := hv
    have hsp : spotFree (Value.agg cs).cells.toList := by
      intro v hv a m c he
      obtain ⟨i, hi⟩ := List.mem_iff_getElem?.1 hv
      obtain ⟨u, _, hu⟩ := hrow i v (by simpa [Value.cells] using hi)
      subst he
      exact slice_spot hu
    obtain ⟨hl, xs, hx, hr⟩ := open_cells n t s fuel _ _ hs ht (.inr hsp)
    refine ⟨xs, hx, ?_⟩
    have hagg : s.mk xs = .agg xs := by
      cases n with
      | zero => cases hs
      | succ n =>
      simp only [Sk.of] at hs
      rcases hag with ⟨fs, hu⟩ | ⟨m, e, hu⟩
      · simp only [hu] at hs
        split at hs
        · next s1 h1 =>
          split at hs
          · have hs' := Option.some.inj hs
            subst hs'
            cases fl : fs.toList with
            | nil => rw [fl] at h1; cases h1; rfl
            | cons f l =>
              rw [fl] at h1
              simp only [Sk.fields] at h1
              split at h1
              · split at h1
                · obtain ⟨s2, _, rfl⟩ := Option.map_eq_some_iff.1 h1; rfl
                · cases h1
              · cases h1
          · cases hs
        · cases hs
      · simp only [hu] at hs
        split at hs
        · split at hs
          · have hs' := Option.some.inj hs
            subst hs'
            cases m <;> rfl
          · cases hs
        · cases hs
    rw [hagg]
    refine .agg xs cs (by simpa [Value.cells] using hr.1) fun j x v h1 h2 => (hr.2 j x v h1 (by simpa [Value.cells] using h2)).2
  · have hcell : Cell.okWide P W .any b2 t v := by
      split at hok
      · next fs hu => exact absurd (.inl ⟨fs, hu⟩) hag
      · next m e hu => exact absurd (.inr ⟨m, e, hu⟩) hag
      · exact hok
    have hnotagg : ∀ cs, v ≠ .agg cs := by
      rintro cs rfl
      have h2 : Cell.ok P W .any b2 t (.agg cs) := by
        unfold Cell.okWide at hcell
        split at hcell <;> first | exact hcell | (rename_i h3; cases h3) | (rename_i h3 h4; cases h4)
      unfold Cell.ok at h2
      split at h2 <;> first | (rename_i h3 h4; cases h4; done) | cases h2
    have hc : v.cells.toList = [v] := by
      cases v <;> first | rfl | exact absurd rfl (hnotagg _)
    rw [hc] at ht
    have hsp : spotFree [v] := by
      intro u hu a m c he
      simp at hu
      subst hu
      subst he
      exact slice_spot hcell
    obtain ⟨hl, xs, hx, hr⟩ := open_cells n t s fuel _ _ hs ht (.inr hsp)
    refine ⟨xs, hx, ?_⟩
    have hna : s.isAgg = false := by
      cases n with
      | zero => cases hs
      | succ n =>
      simp only [Sk.of] at hs
      split at hs
      · cases hs; rfl
      · cases hs; rfl
      · cases hs; rfl
      · split at hs
        · split at hs
          · cases hs; rfl
          · cases hs
        · cases hs
      · next fs hu => exact absurd (.inl ⟨fs, hu⟩) hag
      · next m e hu => exact absurd (.inr ⟨m, e, hu⟩) hag
      · cases hs
    have h1 : xs.length = 1 := hr.1
    match xs, h1 with
    | [x], _ =>
      have : s.mk [x] = x := by simp [Sk.mk, hna]
      rw [this]
      exact (hr.2 0 x v rfl rfl).2
def ArgsH : List Sk → List AV → Prop
  | [], [] => True
  | s :: l, x :: r => (∃ xs, s.has xs ∧ x = s.mk xs) ∧ ArgsH l r
  | _, _ => False
theorem ArgsH.cons' {s : Sk} {l : List Sk} {avs : List AV} (h : ArgsH (s :: l) avs) : ∃ y r, s.has y ∧ avs = s.mk y :: r ∧ ArgsH l r := by
  cases avs with
  | nil => exact h.elim
  | cons x r =>
    obtain ⟨⟨xs, hx, e⟩, h2⟩ := h
    exact ⟨xs, r, hx, by rw [e], h2⟩
theorem ArgsH.nil' {avs : List AV} (h : ArgsH [] avs) : avs = [] := by
  cases avs with
  | nil => rfl
  | cons x r => exact h.elim
theorem openArgs {b2 n : Nat} : ∀ (ts : List TypeId) (vs : List Value) (ds : List (DataW H)) (ps : List MemPlace) (sks : List Sk), DataW.TrodAll enc P W base spare held ts vs ds ps → ts.map (Sk.of P n) = sks.map some →
    (∀ (j : Nat) t v, ts[j]? = some t → vs[j]? = some v → Value.okWide P W .any b2 t v) → ∃ avs, ArgsH sks avs ∧ avs.length = vs.length ∧ ∀ (j : Nat) (x : AV) (v : Value), avs[j]? = some x → vs[j]? = some v → VR [] (psi0 W) x v := by
  intro ts
  induction ts with
  | nil =>
    intro vs ds ps sks h hsk _
    obtain ⟨rfl, rfl, rfl⟩ := trodAll_nil h
    cases sks with
    | nil => exact ⟨[], trivial, rfl, fun j x v h => by simp at h⟩
    | cons _ _ => simp at hsk
  | cons t ts ih =>
    intro vs ds ps sks h hsk hok
    obtain ⟨v, vs', d, ds', p, q, rfl, rfl, rfl, h0, hr⟩ := trodAll_cons h
    cases sks with
    | nil => simp at hsk
    | cons s sks =>
      simp only [List.map_cons, List.cons.injEq] at hsk
      obtain ⟨xs, hx, hv⟩ := openArg hsk.1 h0 (hok 0 t v rfl rfl)
      obtain ⟨avs, ha, hl, hvr⟩ := ih vs' ds' q sks hr hsk.2 (fun j t v h1 h2 => hok (j + 1) t v h1 h2)
      refine ⟨s.mk xs :: avs, ⟨⟨xs, hx, rfl⟩, ha⟩, by simp [hl], fun j x u h1 h2 => ?_⟩
      cases j with
      | zero => cases h1; cases h2; exact hv
      | succ j => exact hvr j x u h1 h2
theorem trodAll_below (hl : laidOutB P = true) {W' : World} (hb : Below W.heap.size W W') : ∀ (ts : List TypeId) (vs : List Value) (ds : List (DataW H)) (ps : List MemPlace), (∀ t ∈ ts, P.readableRec t = true ∧ t < P.types.size) →
    DataW.TrodAll enc P W 0 (fun _ => true) true ts vs ds ps → (∀ x ∈ ps, x.block < W.heap.size) → DataW.TrodAll enc P W' 0 (fun b => decide (b < W.heap.size)) true ts vs ds ps := by
  intro ts
  induction ts with
  | nil =>
    intro vs ds ps _ h _
    obtain ⟨rfl, rfl, rfl⟩ := trodAll_nil h
    exact rfl
  | cons t ts ih =>
    intro vs ds ps hr h hlt
    obtain ⟨v, vs', d, ds', p, q, rfl, rfl, rfl, h0, hrest⟩ := trodAll_cons h
    exact ⟨p, q, Below.trod hl (hr t (List.mem_cons_self ..)).1 (hr t (List.mem_cons_self ..)).2 h0 hb (fun x hx => hlt x (by simp [hx])), ih vs' ds' q (fun t ht => hr t (List.mem_cons_of_mem _ ht)) hrest (fun x hx => hlt x (by simp [hx])), rfl⟩
theorem law_close {f : FuncId} {fn : Func} {s : ChangeSpec} {n : Nat} (sks : List Sk) {fresh handsOn : Bool} (hl : laidOutB P = true) (hps : ∀ t ∈ fn.params.toList, P.readableRec t = true ∧ t < P.types.size) (hsk : fn.params.toList.map (Sk.of P n) = sks.map some)
    {tb : TypeId} (hres : fn.resultTypes = #[tb]) (htb : P.underlying tb = some .bool) (hvars : s.vars = [])
    {args : Array Value} {ds gs : List (DataW H)} {before : List MemPlace} (hspec : ds.length = fn.params.size → s.fn H (ds ++ []) = { results := [.lit (.bool true)], args := ds })
    (hW : DataW.Whole enc P fn.params.toList s.vars false W args.toList ds gs before) (hval : ∀ (j : Nat) t v, fn.params[j]? = some t → args[j]? = some v → Value.okWide P W .any base t v)
    (k : ∀ avs, ArgsH sks avs → ACall P W f avs [] (fun out _ => out = .ret (.bool true))) :
    Calls P f args W fun e W' => ∃ v, e = .returned v ∧ s.post enc P fn false fresh handsOn false W args v W' := by
  have hW' := hW
  obtain ⟨p, q, hA, hV, hbq, hfz, hnd⟩ := hW
  have hlt : ∀ x ∈ before, x.block < W.heap.size := fun x hx => by simpa using hW'.lt x hx
  have hlen : ds.length = fn.params.size := by
    have key : ∀ (ts : List TypeId) (vs : List Value) (ds : List (DataW H)) (ps : List MemPlace), DataW.TrodAll enc P W 0 (fun _ => true) true ts vs ds ps → ds.length = ts.length := by
      intro ts
      induction ts with
      | nil => intro vs ds ps h; obtain ⟨_, rfl, _⟩ := trodAll_nil h; rfl
      | cons t ts ih => intro vs ds ps h; obtain ⟨v, vs', d, ds', p, q, _, rfl, _, _, hr⟩ := trodAll_cons h; simp [ih _ _ _ hr]
    simpa using key _ _ _ _ hA
  rw [hvars] at hV
  cases gs with
  | cons _ _ => exact absurd hV (by simp [DataW.TrodVars])
  | nil =>
  obtain rfl : q = [] := by simpa [DataW.TrodVars] using hV
  obtain ⟨avs, ha, hal, hvr⟩ := openArgs (b2 := base) _ _ _ _ sks hA hsk (fun j t v h1 h2 => hval j t v (by simpa using h1) (by simpa using h2))
  obtain ⟨_, hk⟩ := k avs ha
  refine (hk [] (psi0 W) W args (Rel.start W) (by simpa using hal) (fun j x c h1 h2 => hvr j x c h1 (by simpa using h2))).mono ?_
  rintro e W' ⟨ι', ψ', out, S', _, hR, ho, rfl⟩
  have he : e = .returned (.bool true) := by
    cases e with
    | returned v => rw [VR.bool_inv (show VR ι' ψ' (.bool true) v from ho)]
    | _ => exact absurd ho (by simp [OutR])
  subst he
  refine ⟨_, rfl, ds, [], before, [], before, [], hW', ?_, ?_, ?_, hR.below.frame _, fun h => by cases h⟩
  · rw [hspec hlen, hres]
    simp only [List.size_toArray, List.length_cons, List.length_nil]
    exact trodAll_mk1 (shut_bool htb _)
  · rw [hspec hlen, hbq, List.append_nil]
    exact trodAll_below hl hR.below _ _ _ _ hps hA (fun x hx => hlt x (by rw [hbq]; simp [hx]))
  · rw [hspec hlen, hvars]
    exact rfl
end
end Go.Fen
