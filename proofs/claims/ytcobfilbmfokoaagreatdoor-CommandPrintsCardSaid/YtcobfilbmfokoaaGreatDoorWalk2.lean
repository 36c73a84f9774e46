/- YtcobfilbmfokoaaGreatDoorWalk2. Texts of the proof of a law about recordings: a layer of abstract values above the worlds, the types, the walks of the functions that the law reaches, the law and its card. Own work of an AI agent. -/
import Derived.Test.YtcobfilbmfokoaaGreatDoorWalk1
import Derived.WalkKit
import Derived.LaidEql
import Derived.Stop.Asserts
import Derived.RowKitTokens
import Derived.Test.YtcobfilbmfokoaaGreatDoorCore1
import Derived.Test.YtcobfilbmfokoaaGreatDoorCards
import Derived.Test.YtcobfilbmfokoaaGreatDoorTie
import Derived.ProofKit
import Derived.OpenShut
import Derived.LaidMore
import Derived.Lay
import Derived.LaidSub
import Derived.LaidHandle
import Derived.SevenTiedAt
import Derived.Stop.Joined
set_option linter.all false
set_option linter.unusedVariables false
set_option linter.unusedSimpArgs false
namespace Go.Proofs.YtcobfilbmfokoaaGreatDoor
open Go Go.Fen
set_option linter.unusedSimpArgs false
set_option linter.unusedVariables false
attribute [local irreducible] RunX WP ACall AnyP OpA ProtL
set_option maxRecDepth 8000
section
variable (w0 : World) (S : List Blk) (a : Nat) (t : List UInt8)
theorem skipL (s : List UInt8) (e : AV) (L : List Blk) (ht : t.length ≤ 10000000) (he : ErrOk e) (hal : a < S.length) (hs : s <:+ t) (R : AOut → List Blk → Prop) (h : R (.ret (.bool (decide (skipC s = [])))) (S.set a (.cells [.str t, .int .i64 (scP t (skipC s) : Nat), e]) ++ L)) :
    ACall Tryz.prog w0 62 [.own a 0] (S.set a (.cells [.str t, .int .i64 (scP t s : Nat), e]) ++ L) R := by
  have := skip' w0 (S ++ L) a t s e ht he (by simp; omega) hs R (by rw [setL hal]; exact h)
  rwa [setL hal] at this
theorem wordL (s : List UInt8) (e : AV) (L : List Blk) (ht : t.length ≤ 10000000) (he : ErrOk e) (hal : a < S.length) (hs : s <:+ t) (R : AOut → List Blk → Prop) (h : R (.ret (.str (wordC s).1)) (S.set a (.cells [.str t, .int .i64 (scP t (wordC s).2 : Nat), e]) ++ L)) :
    ACall Tryz.prog w0 44 [.own a 0] (S.set a (.cells [.str t, .int .i64 (scP t s : Nat), e]) ++ L) R := by
  have := cWord w0 ((S ++ L).set a (.cells [.str t, .int .i64 (scP t s : Nat), e])) a t s e ht he (by rw [setL hal, List.getElem?_append_left (by simpa using hal)]; simp [hal]) hs R (by rw [List.set_set, setL hal]; exact h)
  rwa [setL hal] at this
theorem numL (s : List UInt8) (e : AV) (L : List Blk) (ht : t.length ≤ 10000000) (he : ErrOk e) (hal : a < S.length) (hs : s <:+ t) (R : AOut → List Blk → Prop)
    (h1 : ∀ n, numC (wordC s).1 = some n → R (.ret (.int .i64 n)) (S.set a (.cells [.str t, .int .i64 (scP t (wordC s).2 : Nat), e]) ++ L))
    (h0 : numC (wordC s).1 = none → ∀ q, R (.ret (.int .i64 0)) (S.set a (.cells [.str t, .int .i64 (scP t (wordC s).2 : Nat), errV q]) ++ L)) :
    ACall Tryz.prog w0 63 [.own a 0] (S.set a (.cells [.str t, .int .i64 (scP t s : Nat), e]) ++ L) R := by
  have := cNumber w0 ((S ++ L).set a (.cells [.str t, .int .i64 (scP t s : Nat), e])) a t s e ht he (by rw [setL hal, List.getElem?_append_left (by simpa using hal)]; simp [hal]) hs R (fun n hn => by rw [List.set_set, setL hal]; exact h1 n hn) (fun hn q => by rw [List.set_set, setL hal]; exact h0 hn q)
  rwa [setL hal] at this
theorem quoL (hPU : PU16 w0) (s : List UInt8) (L : List Blk) (ht : t.length ≤ 10000000) (hal : a < S.length) (hs : s <:+ t) (R : AOut → List Blk → Prop)
    (h1 : ∀ x r, quoC s = some (x, r) → r <:+ t → R (.ret (.str x)) (S.set a (.cells [.str t, .int .i64 (scP t r : Nat), .inil]) ++ L))
    (h0 : quoC s = none → ∀ q r, r <:+ t → R (.ret (.str [])) (S.set a (.cells [.str t, .int .i64 (scP t r : Nat), errV q]) ++ L)) :
    ACall Tryz.prog w0 64 [.own a 0] (S.set a (.cells [.str t, .int .i64 (scP t s : Nat), .inil]) ++ L) R := by
  have := cQuoted w0 hPU (S ++ L) a t s ht (by simp; omega) hs R (fun x r hh hr => by rw [setL hal]; exact h1 x r hh hr) (fun hh q r hr => by rw [setL hal]; exact h0 hh q r hr)
  rwa [setL hal] at this
end
theorem skip_skip (s : List UInt8) : skipC (skipC s) = skipC s := by
  unfold skipC
  induction s with
  | nil => rfl
  | cons b r ih =>
    rw [List.dropWhile_cons]
    split
    · exact ih
    · next hb => rw [List.dropWhile_cons, if_neg hb]
theorem quo_skip (s : List UInt8) : quoC (skipC s) = quoC s := by
  unfold quoC
  rw [skip_skip]
theorem unq_suf : ∀ (n : Nat) (s acc x r : List UInt8), s.length ≤ n → unqC acc s = some (x, r) → r <:+ s
  | _, [], acc, x, r, _, h => by cases h
  | 0, c :: s, acc, x, r, hn, h => by simp at hn
  | n + 1, c :: s, acc, x, r, hn, h => by
    simp only [List.length_cons] at hn
    by_cases h1 : c.toNat = 34
    · rw [unqC_cons, if_pos h1] at h
      cases h
      exact List.suffix_cons _ _
    · by_cases h2 : c.toNat = 92
      · rw [unq_92 acc s c h2] at h
        cases he : escP s with
        | none => rw [he] at h; cases h
        | some w =>
          obtain ⟨v, r2⟩ := w
          rw [he] at h
          obtain ⟨e1, e2⟩ := escP_suf he
          exact ((unq_suf n r2 _ x r (by omega) h).trans e1).trans (List.suffix_cons _ _)
      · rw [unqC_cons, if_neg h1, if_pos h2] at h
        split at h
        · exact (unq_suf n s _ x r (by omega) h).trans (List.suffix_cons _ _)
        · cases h
theorem quo_suf {s x r : List UInt8} (h : quoC s = some (x, r)) : r <:+ s := by
  unfold quoC at h
  have hs : skipC s <:+ s := List.dropWhile_suffix _
  cases hq : skipC s with
  | nil => rw [hq] at h; cases h
  | cons c r2 =>
    rw [hq] at h hs
    simp only at h
    split at h
    · exact ((unq_suf _ r2 _ x r (Nat.le_refl _) h).trans (List.suffix_cons _ _)).trans hs
    · cases h
theorem set2 {S L : List Blk} {a b : Nat} (hab : a ≠ b) (hb : b < S.length) (C X C' : Blk) : ((S.set b C).set a X ++ L).set b C' = (S.set b C').set a X ++ L := by
  rw [List.set_append_left _ _ (by simpa using hb), List.set_comm _ _ hab, List.set_set]
theorem get2a {S L : List Blk} {a b : Nat} (ha : a < S.length) (C X : Blk) : ((S.set b C).set a X ++ L)[a]? = some X := by
  rw [List.getElem?_append_left (by simpa using ha)]; simp [ha]
theorem get2b {S L : List Blk} {a b : Nat} (hab : a ≠ b) (hb : b < S.length) (C X : Blk) : ((S.set b C).set a X ++ L)[b]? = some C := by
  rw [List.getElem?_append_left (by simpa using hb), List.getElem?_set_ne hab]; simp [hb]
def cmB (c : Cm) : Blk := .cells [.int .i64 c.kind, .int .i64 c.n, .int .i64 c.m, .str c.text]
theorem out2 {S : List Blk} {a b : Nat} {C C' : Blk} {t : List UInt8} {x y : Int} {e e2 : AV} (hO : OuterOk ((S.set b C).set a (.cells [.str t, .int .i64 y, e2]))) (he : ErrOk e) (hC : ∀ n, C'.ltB n = true) (hab : a ≠ b) : OuterOk ((S.set b C').set a (.cells [.str t, .int .i64 x, e])) := by
  have h1 := outSet2 (x := x) hO he
  have h2 := OuterOk.set (a := b) h1 (hC _)
  rw [List.set_comm _ _ hab, List.set_set] at h2
  exact h2
set_option maxHeartbeats 8000000 in
theorem cArgs0 (w0 : World) (hPU : PU16 w0) (S : List Blk) (a b : Nat) (hab : a ≠ b) (ha : a < S.length) (hb : b < S.length) (t s : List UInt8) (ht : t.length ≤ 10000000) (hs : s <:+ t) (k : Int) (f : Fm) (hw : f.words = [])
    (hex : f.index = true → f.number = false ∧ f.text = false) (hnt : f.number = true → f.text = false) (R : AOut → List Blk → Prop)
    (h1 : ∀ c, argsC k f s = some c → R (.ret (.tup [])) ((S.set b (cmB c)).set a (.cells [.str t, .int .i64 (scP t [] : Nat), .inil])))
    (h0 : argsC k f s = none → ∀ q r c, r <:+ t → R (.ret (.tup [])) ((S.set b (cmB c)).set a (.cells [.str t, .int .i64 (scP t r : Nat), errV q]))) :
    ACall Tryz.prog w0 45 [.own a 0, f.av, .own b 0] ((S.set b (cmB ⟨k, 0, 0, []⟩)).set a (.cells [.str t, .int .i64 (scP t s : Nat), .inil])) R := by
  obtain ⟨kw, words, number, index, text, lo, hi, mx, name⟩ := f
  simp only at hw hex hnt
  subst hw
  have hi0 : ErrOk .inil := .inl rfl
  have hga := fun C X L => get2a (S := S) (L := L) (b := b) ha C X
  have hgb := fun C X L => get2b (S := S) (L := L) hab hb C X
  have hsb := fun C X C' L => set2 (S := S) (L := L) hab hb C X C'
  have hga0 : ∀ C X, ((S.set b C).set a X)[a]? = some X := fun C X => by simpa using hga C X []
  have hgb0 : ∀ C X, ((S.set b C).set a X)[b]? = some C := fun C X => by simpa using hgb C X []
  have hgn : ∀ C X F, ((S.set b C).set a X ++ [F])[S.length]? = some F := fun C X F => by
    rw [List.getElem?_append_right (by simp)]; simp
  have hal : ∀ C, a < (S.set b C).length := fun C => by simpa using ha
  have hwc : wordsC ⟨kw, [], number, index, text, lo, hi, mx, name⟩ s = some (0, s) := rfl
  unfold argsC at h1 h0
  simp only [hwc] at h1 h0
  unfold Fm.av
  simp only [List.map_nil]
  have hr1 := (suf_word hs).1
  cases index with
  | true =>
    obtain ⟨rfl, rfl⟩ := hex rfl
    simp only [if_true] at h1 h0
    simp only [cmB]
    have hnu := fun (R : AOut → List Blk → Prop) => numL w0 (S.set b (Blk.cells [.int .i64 k, .int .i64 0, .int .i64 0, .str []])) a t s .inil [(Blk.cells [.str kw, .sval false [], .bool false, .bool true, .bool false, .int .i64 lo, .int .i64 hi, .int .i64 mx, .bool name])] ht hi0 (hal _) hs R
    cases hn : numC (wordC s).1 with
    | some n =>
      have hnu := fun (R : AOut → List Blk → Prop) hh => hnu R (fun n' hn' => by rw [hn] at hn'; cases hn'; exact hh) (fun hn' => by rw [hn] at hn'; cases hn')
      have hsk := skipL w0 (S.set b (Blk.cells [.int .i64 k, .int .i64 n, .int .i64 0, .str []])) a t (wordC s).2 .inil [(Blk.cells [.str kw, .sval false [], .bool false, .bool true, .bool false, .int .i64 lo, .int .i64 hi, .int .i64 mx, .bool name])] ht hi0 (hal _) hr1
      have hr2 := suf_skip hr1
      by_cases hz : skipC (wordC s).2 = []
      · have h := h1 ⟨k, n, 0, []⟩ (by simp only [hn, Option.map_some]; rw [if_pos hz])
        simp only [cmB] at h
        rw [decide_eq_true hz, hz] at hsk
        clear h1 h0 hz
        refine enter Tryz.func45 rfl (by decide +kernel) (by rw [Tryz.ntmps45]; simp) (by rw [Tryz.ntmps45]; decide) (fun hO => ?_); rw [Tryz.ntmps45]
        repeat' first | apply x_seq | apply x_skip | apply x_block | apply x_ops_nil | apply p_blk | apply p_end | (apply x_region; simp only [List.toList_toArray]) | (apply x_step0; (· rfl); (· simp only [go_sem, *]; try rfl); (· rfl); simp only [putA]) | (apply x_callA []; (· simp only [go_sem, *]; try rfl); (· rfl); (· simp only [go_sem, *]; try rfl); (· rfl); (iterate 2 (· simp only [go_sem, *]; try rfl)); (first | apply hnu | apply hsk); simp only [afterCall, putA]) | (apply x_condT; (· simp only [go_sem, *]; try rfl)) | (apply x_condF; (· simp only [go_sem, *]; try rfl)) | fail
        apply f_endO (S2 := (S.set b (Blk.cells [.int .i64 k, .int .i64 n, .int .i64 0, .str []])).set a (.cells [.str t, .int .i64 (scP t [] : Nat), .inil])) (L := [(Blk.cells [.str kw, .sval false [], .bool false, .bool true, .bool false, .int .i64 lo, .int .i64 hi, .int .i64 mx, .bool name])])
        · (simp only [go_sem, *]; try rfl)
        · (simp only [go_sem, *]; try rfl)
        · simp
        · exact out2 hO hi0 (fun _ => rfl) hab
        · (simp only [go_sem, *, Tryz.results45]; try rfl)
        · (simp only [go_sem, *]; try rfl)
        · (simp only [go_sem, *]; try rfl)
        · exact h
      · have h := h0 (by simp only [hn, Option.map_some]; rw [if_neg hz])
        have hf := fail' w0 (S.set b (Blk.cells [.int .i64 k, .int .i64 n, .int .i64 0, .str []])) a t (scP t (skipC (wordC s).2) : Nat) .inil hi0 (hal _) [(Blk.cells [.str kw, .sval false [], .bool false, .bool true, .bool false, .int .i64 lo, .int .i64 hi, .int .i64 mx, .bool name])]
        simp only [cmB] at h
        rw [decide_eq_false hz] at hsk
        clear h1 h0 hz
        refine enter Tryz.func45 rfl (by decide +kernel) (by rw [Tryz.ntmps45]; simp) (by rw [Tryz.ntmps45]; decide) (fun hO => ?_); rw [Tryz.ntmps45]
        repeat' first | apply x_seq | apply x_skip | apply x_block | apply x_ops_nil | apply p_blk | (apply x_region; simp only [List.toList_toArray]) | (apply x_step0; (· rfl); (· simp only [go_sem, *]; try rfl); (· rfl); simp only [putA]) | (apply x_callA []; (· simp only [go_sem, *]; try rfl); (· rfl); (· simp only [go_sem, *]; try rfl); (· rfl); (iterate 2 (· simp only [go_sem, *]; try rfl)); (first | apply hnu | apply hsk | apply hf); simp only [afterCall, putA]) | (apply x_condT; (· simp only [go_sem, *]; try rfl)) | (apply x_condF; (· simp only [go_sem, *]; try rfl)) | fail
        intro q
        repeat' first | apply x_ops_nil | apply p_end | fail
        apply f_endO (S2 := (S.set b (Blk.cells [.int .i64 k, .int .i64 n, .int .i64 0, .str []])).set a (.cells [.str t, .int .i64 (scP t (skipC (wordC s).2) : Nat), errV q])) (L := [(Blk.cells [.str kw, .sval false [], .bool false, .bool true, .bool false, .int .i64 lo, .int .i64 hi, .int .i64 mx, .bool name])])
        · (simp only [go_sem, *]; try rfl)
        · (simp only [go_sem, *]; try rfl)
        · simp
        · exact out2 hO (errOk_v q) (fun _ => rfl) hab
        · (simp only [go_sem, *, Tryz.results45]; try rfl)
        · (simp only [go_sem, *]; try rfl)
        · (simp only [go_sem, *]; try rfl)
        · exact h q (skipC (wordC s).2) ⟨k, n, 0, []⟩ hr2
    | none =>
      have hnu := fun (R : AOut → List Blk → Prop) hh => hnu R (fun n' hn' => by rw [hn] at hn'; cases hn') (fun _ => hh)
      have h := h0 (by simp only [hn, Option.map_none])
      simp only [cmB] at h
      clear h1 h0
      refine enter Tryz.func45 rfl (by decide +kernel) (by rw [Tryz.ntmps45]; simp) (by rw [Tryz.ntmps45]; decide) (fun hO => ?_); rw [Tryz.ntmps45]
      repeat' first | apply x_seq | apply x_skip | apply x_block | apply x_ops_nil | (apply x_region; simp only [List.toList_toArray]) | (apply x_step0; (· rfl); (· simp only [go_sem, *]; try rfl); (· rfl); simp only [putA]) | (apply x_callA []; (· simp only [go_sem, *]; try rfl); (· rfl); (· simp only [go_sem, *]; try rfl); (· rfl); (iterate 2 (· simp only [go_sem, *]; try rfl)); (first | apply hnu); simp only [afterCall, putA]) | (apply x_condT; (· simp only [go_sem, *]; try rfl)) | (apply x_condF; (· simp only [go_sem, *]; try rfl)) | fail
      intro q
      have hr2 := suf_skip hr1
      have hsk := skipL w0 (S.set b (Blk.cells [.int .i64 k, .int .i64 0, .int .i64 0, .str []])) a t (wordC s).2 (errV q) [(Blk.cells [.str kw, .sval false [], .bool false, .bool true, .bool false, .int .i64 lo, .int .i64 hi, .int .i64 mx, .bool name])] ht (errOk_v q) (hal _) hr1
      have hf := fail' w0 (S.set b (Blk.cells [.int .i64 k, .int .i64 0, .int .i64 0, .str []])) a t (scP t (skipC (wordC s).2) : Nat) (errV q) (errOk_v q) (hal _) [(Blk.cells [.str kw, .sval false [], .bool false, .bool true, .bool false, .int .i64 lo, .int .i64 hi, .int .i64 mx, .bool name])]
      by_cases hz : skipC (wordC s).2 = []
      · rw [decide_eq_true hz] at hsk
        clear hz
        repeat' first | apply x_seq | apply x_skip | apply x_ops_nil | apply p_blk | apply p_end | (apply x_region; simp only [List.toList_toArray]) | (apply x_step0; (· rfl); (· simp only [go_sem, *]; try rfl); (· rfl); simp only [putA]) | (apply x_callA []; (· simp only [go_sem, *]; try rfl); (· rfl); (· simp only [go_sem, *]; try rfl); (· rfl); (iterate 2 (· simp only [go_sem, *]; try rfl)); (first | apply hsk); simp only [afterCall, putA]) | (apply x_condF; (· simp only [go_sem, *]; try rfl)) | fail
        apply f_endO (S2 := (S.set b (Blk.cells [.int .i64 k, .int .i64 0, .int .i64 0, .str []])).set a (.cells [.str t, .int .i64 (scP t (skipC (wordC s).2) : Nat), errV q])) (L := [(Blk.cells [.str kw, .sval false [], .bool false, .bool true, .bool false, .int .i64 lo, .int .i64 hi, .int .i64 mx, .bool name])])
        · (simp only [go_sem, *]; try rfl)
        · (simp only [go_sem, *]; try rfl)
        · simp
        · exact out2 hO (errOk_v q) (fun _ => rfl) hab
        · (simp only [go_sem, *, Tryz.results45]; try rfl)
        · (simp only [go_sem, *]; try rfl)
        · (simp only [go_sem, *]; try rfl)
        · exact h q (skipC (wordC s).2) ⟨k, 0, 0, []⟩ hr2
      · rw [decide_eq_false hz] at hsk
        clear hz
        repeat' first | apply x_seq | apply x_ops_nil | apply p_blk | (apply x_region; simp only [List.toList_toArray]) | (apply x_step0; (· rfl); (· simp only [go_sem, *]; try rfl); (· rfl); simp only [putA]) | (apply x_callA []; (· simp only [go_sem, *]; try rfl); (· rfl); (· simp only [go_sem, *]; try rfl); (· rfl); (iterate 2 (· simp only [go_sem, *]; try rfl)); (first | apply hsk | apply hf); simp only [afterCall, putA]) | (apply x_condT; (· simp only [go_sem, *]; try rfl)) | fail
        intro q2
        repeat' first | apply x_ops_nil | apply p_end | fail
        apply f_endO (S2 := (S.set b (Blk.cells [.int .i64 k, .int .i64 0, .int .i64 0, .str []])).set a (.cells [.str t, .int .i64 (scP t (skipC (wordC s).2) : Nat), errV q2])) (L := [(Blk.cells [.str kw, .sval false [], .bool false, .bool true, .bool false, .int .i64 lo, .int .i64 hi, .int .i64 mx, .bool name])])
        · (simp only [go_sem, *]; try rfl)
        · (simp only [go_sem, *]; try rfl)
        · simp
        · exact out2 hO (errOk_v q2) (fun _ => rfl) hab
        · (simp only [go_sem, *, Tryz.results45]; try rfl)
        · (simp only [go_sem, *]; try rfl)
        · (simp only [go_sem, *]; try rfl)
        · exact h q2 (skipC (wordC s).2) ⟨k, 0, 0, []⟩ hr2
  | false =>
    cases number with
    | true =>
      have e := hnt rfl
      subst e
      simp only [Bool.false_eq_true, if_false, if_true] at h1 h0
      simp only [cmB]
      have hnu := fun (R : AOut → List Blk → Prop) => numL w0 (S.set b (Blk.cells [.int .i64 k, .int .i64 0, .int .i64 0, .str []])) a t s .inil [(Blk.cells [.str kw, .sval false [], .bool true, .bool false, .bool false, .int .i64 lo, .int .i64 hi, .int .i64 mx, .bool name])] ht hi0 (hal _) hs R
      cases hn : numC (wordC s).1 with
      | some n =>
        have hnu := fun (R : AOut → List Blk → Prop) hh => hnu R (fun n' hn' => by rw [hn] at hn'; cases hn'; exact hh) (fun hn' => by rw [hn] at hn'; cases hn')
        have hsk := skipL w0 (S.set b (Blk.cells [.int .i64 k, .int .i64 0, .int .i64 n, .str []])) a t (wordC s).2 .inil [(Blk.cells [.str kw, .sval false [], .bool true, .bool false, .bool false, .int .i64 lo, .int .i64 hi, .int .i64 mx, .bool name])] ht hi0 (hal _) hr1
        have hr2 := suf_skip hr1
        by_cases hz : skipC (wordC s).2 = []
        · have h := h1 ⟨k, 0, n, []⟩ (by simp only [hn, Option.map_some]; rw [if_pos hz])
          simp only [cmB] at h
          rw [decide_eq_true hz, hz] at hsk
          clear h1 h0 hz
          refine enter Tryz.func45 rfl (by decide +kernel) (by rw [Tryz.ntmps45]; simp) (by rw [Tryz.ntmps45]; decide) (fun hO => ?_); rw [Tryz.ntmps45]
          repeat' first | apply x_seq | apply x_skip | apply x_block | apply x_ops_nil | apply p_blk | apply p_end | (apply x_region; simp only [List.toList_toArray]) | (apply x_step0; (· rfl); (· simp only [go_sem, *]; try rfl); (· rfl); simp only [putA]) | (apply x_callA []; (· simp only [go_sem, *]; try rfl); (· rfl); (· simp only [go_sem, *]; try rfl); (· rfl); (iterate 2 (· simp only [go_sem, *]; try rfl)); (first | apply hnu | apply hsk); simp only [afterCall, putA]) | (apply x_condT; (· simp only [go_sem, *]; try rfl)) | (apply x_condF; (· simp only [go_sem, *]; try rfl)) | fail
          apply f_endO (S2 := (S.set b (Blk.cells [.int .i64 k, .int .i64 0, .int .i64 n, .str []])).set a (.cells [.str t, .int .i64 (scP t [] : Nat), .inil])) (L := [(Blk.cells [.str kw, .sval false [], .bool true, .bool false, .bool false, .int .i64 lo, .int .i64 hi, .int .i64 mx, .bool name])])
          · (simp only [go_sem, *]; try rfl)
          · (simp only [go_sem, *]; try rfl)
          · simp
          · exact out2 hO hi0 (fun _ => rfl) hab
          · (simp only [go_sem, *, Tryz.results45]; try rfl)
          · (simp only [go_sem, *]; try rfl)
          · (simp only [go_sem, *]; try rfl)
          · exact h
        · have h := h0 (by simp only [hn, Option.map_some]; rw [if_neg hz])
          have hf := fail' w0 (S.set b (Blk.cells [.int .i64 k, .int .i64 0, .int .i64 n, .str []])) a t (scP t (skipC (wordC s).2) : Nat) .inil hi0 (hal _) [(Blk.cells [.str kw, .sval false [], .bool true, .bool false, .bool false, .int .i64 lo, .int .i64 hi, .int .i64 mx, .bool name])]
          simp only [cmB] at h
          rw [decide_eq_false hz] at hsk
          clear h1 h0 hz
          refine enter Tryz.func45 rfl (by decide +kernel) (by rw [Tryz.ntmps45]; simp) (by rw [Tryz.ntmps45]; decide) (fun hO => ?_); rw [Tryz.ntmps45]
          repeat' first | apply x_seq | apply x_skip | apply x_block | apply x_ops_nil | apply p_blk | (apply x_region; simp only [List.toList_toArray]) | (apply x_step0; (· rfl); (· simp only [go_sem, *]; try rfl); (· rfl); simp only [putA]) | (apply x_callA []; (· simp only [go_sem, *]; try rfl); (· rfl); (· simp only [go_sem, *]; try rfl); (· rfl); (iterate 2 (· simp only [go_sem, *]; try rfl)); (first | apply hnu | apply hsk | apply hf); simp only [afterCall, putA]) | (apply x_condT; (· simp only [go_sem, *]; try rfl)) | (apply x_condF; (· simp only [go_sem, *]; try rfl)) | fail
          intro q
          repeat' first | apply x_ops_nil | apply p_end | fail
          apply f_endO (S2 := (S.set b (Blk.cells [.int .i64 k, .int .i64 0, .int .i64 n, .str []])).set a (.cells [.str t, .int .i64 (scP t (skipC (wordC s).2) : Nat), errV q])) (L := [(Blk.cells [.str kw, .sval false [], .bool true, .bool false, .bool false, .int .i64 lo, .int .i64 hi, .int .i64 mx, .bool name])])
          · (simp only [go_sem, *]; try rfl)
          · (simp only [go_sem, *]; try rfl)
          · simp
          · exact out2 hO (errOk_v q) (fun _ => rfl) hab
          · (simp only [go_sem, *, Tryz.results45]; try rfl)
          · (simp only [go_sem, *]; try rfl)
          · (simp only [go_sem, *]; try rfl)
          · exact h q (skipC (wordC s).2) ⟨k, 0, n, []⟩ hr2
      | none =>
        have hnu := fun (R : AOut → List Blk → Prop) hh => hnu R (fun n' hn' => by rw [hn] at hn'; cases hn') (fun _ => hh)
        have h := h0 (by simp only [hn, Option.map_none])
        simp only [cmB] at h
        clear h1 h0
        refine enter Tryz.func45 rfl (by decide +kernel) (by rw [Tryz.ntmps45]; simp) (by rw [Tryz.ntmps45]; decide) (fun hO => ?_); rw [Tryz.ntmps45]
        repeat' first | apply x_seq | apply x_skip | apply x_block | apply x_ops_nil | (apply x_region; simp only [List.toList_toArray]) | (apply x_step0; (· rfl); (· simp only [go_sem, *]; try rfl); (· rfl); simp only [putA]) | (apply x_callA []; (· simp only [go_sem, *]; try rfl); (· rfl); (· simp only [go_sem, *]; try rfl); (· rfl); (iterate 2 (· simp only [go_sem, *]; try rfl)); (first | apply hnu); simp only [afterCall, putA]) | (apply x_condT; (· simp only [go_sem, *]; try rfl)) | (apply x_condF; (· simp only [go_sem, *]; try rfl)) | fail
        intro q
        have hr2 := suf_skip hr1
        have hsk := skipL w0 (S.set b (Blk.cells [.int .i64 k, .int .i64 0, .int .i64 0, .str []])) a t (wordC s).2 (errV q) [(Blk.cells [.str kw, .sval false [], .bool true, .bool false, .bool false, .int .i64 lo, .int .i64 hi, .int .i64 mx, .bool name])] ht (errOk_v q) (hal _) hr1
        have hf := fail' w0 (S.set b (Blk.cells [.int .i64 k, .int .i64 0, .int .i64 0, .str []])) a t (scP t (skipC (wordC s).2) : Nat) (errV q) (errOk_v q) (hal _) [(Blk.cells [.str kw, .sval false [], .bool true, .bool false, .bool false, .int .i64 lo, .int .i64 hi, .int .i64 mx, .bool name])]
        by_cases hz : skipC (wordC s).2 = []
        · rw [decide_eq_true hz] at hsk
          clear hz
          repeat' first | apply x_seq | apply x_skip | apply x_ops_nil | apply p_blk | apply p_end | (apply x_region; simp only [List.toList_toArray]) | (apply x_step0; (· rfl); (· simp only [go_sem, *]; try rfl); (· rfl); simp only [putA]) | (apply x_callA []; (· simp only [go_sem, *]; try rfl); (· rfl); (· simp only [go_sem, *]; try rfl); (· rfl); (iterate 2 (· simp only [go_sem, *]; try rfl)); (first | apply hsk); simp only [afterCall, putA]) | (apply x_condF; (· simp only [go_sem, *]; try rfl)) | fail
          apply f_endO (S2 := (S.set b (Blk.cells [.int .i64 k, .int .i64 0, .int .i64 0, .str []])).set a (.cells [.str t, .int .i64 (scP t (skipC (wordC s).2) : Nat), errV q])) (L := [(Blk.cells [.str kw, .sval false [], .bool true, .bool false, .bool false, .int .i64 lo, .int .i64 hi, .int .i64 mx, .bool name])])
          · (simp only [go_sem, *]; try rfl)
          · (simp only [go_sem, *]; try rfl)
          · simp
          · exact out2 hO (errOk_v q) (fun _ => rfl) hab
          · (simp only [go_sem, *, Tryz.results45]; try rfl)
          · (simp only [go_sem, *]; try rfl)
          · (simp only [go_sem, *]; try rfl)
          · exact h q (skipC (wordC s).2) ⟨k, 0, 0, []⟩ hr2
        · rw [decide_eq_false hz] at hsk
          clear hz
          repeat' first | apply x_seq | apply x_ops_nil | apply p_blk | (apply x_region; simp only [List.toList_toArray]) | (apply x_step0; (· rfl); (· simp only [go_sem, *]; try rfl); (· rfl); simp only [putA]) | (apply x_callA []; (· simp only [go_sem, *]; try rfl); (· rfl); (· simp only [go_sem, *]; try rfl); (· rfl); (iterate 2 (· simp only [go_sem, *]; try rfl)); (first | apply hsk | apply hf); simp only [afterCall, putA]) | (apply x_condT; (· simp only [go_sem, *]; try rfl)) | fail
          intro q2
          repeat' first | apply x_ops_nil | apply p_end | fail
          apply f_endO (S2 := (S.set b (Blk.cells [.int .i64 k, .int .i64 0, .int .i64 0, .str []])).set a (.cells [.str t, .int .i64 (scP t (skipC (wordC s).2) : Nat), errV q2])) (L := [(Blk.cells [.str kw, .sval false [], .bool true, .bool false, .bool false, .int .i64 lo, .int .i64 hi, .int .i64 mx, .bool name])])
          · (simp only [go_sem, *]; try rfl)
          · (simp only [go_sem, *]; try rfl)
          · simp
          · exact out2 hO (errOk_v q2) (fun _ => rfl) hab
          · (simp only [go_sem, *, Tryz.results45]; try rfl)
          · (simp only [go_sem, *]; try rfl)
          · (simp only [go_sem, *]; try rfl)
          · exact h q2 (skipC (wordC s).2) ⟨k, 0, 0, []⟩ hr2
    | false =>
      cases text with
      | true =>
        simp only [Bool.false_eq_true, if_false, if_true] at h1 h0
        simp only [cmB]
        by_cases hk : k = 12
        · have k1 : (k == 12) = true := by simpa using hk
          have hs0 := skipL w0 (S.set b (Blk.cells [.int .i64 k, .int .i64 0, .int .i64 0, .str []])) a t s .inil [(Blk.cells [.str kw, .sval false [], .bool false, .bool false, .bool true, .int .i64 lo, .int .i64 hi, .int .i64 mx, .bool name])] ht hi0 (hal _) hs
          by_cases hz0 : skipC s = []
          · have h := h1 ⟨k, 0, 0, []⟩ (by rw [if_pos ⟨hk, hz0⟩]; simp only; rw [if_pos (by rfl)])
            simp only [cmB] at h
            rw [decide_eq_true hz0, hz0] at hs0
            have hs1 := skipL w0 (S.set b (Blk.cells [.int .i64 k, .int .i64 0, .int .i64 0, .str []])) a t [] .inil [(Blk.cells [.str kw, .sval false [], .bool false, .bool false, .bool true, .int .i64 lo, .int .i64 hi, .int .i64 mx, .bool name])] ht hi0 (hal _) List.nil_suffix
            have e0 : skipC [] = [] := rfl
            rw [decide_eq_true e0, e0] at hs1
            clear h1 h0 hz0 hk e0
            refine enter Tryz.func45 rfl (by decide +kernel) (by rw [Tryz.ntmps45]; simp) (by rw [Tryz.ntmps45]; decide) (fun hO => ?_); rw [Tryz.ntmps45]
            repeat' first | apply x_seq | apply x_skip | apply x_block | apply x_ops_nil | apply p_blk | apply p_end | (apply x_region; simp only [List.toList_toArray]) | (apply x_step0; (· rfl); (· simp only [go_sem, *]; try rfl); (· rfl); simp only [putA]) | (apply x_callA []; (· simp only [go_sem, *]; try rfl); (· rfl); (· simp only [go_sem, *]; try rfl); (· rfl); (iterate 2 (· simp only [go_sem, *]; try rfl)); (first | apply hs0 | apply hs1); simp only [afterCall, putA]) | (apply x_step; (iterate 2 (· simp only [go_sem, *]; try rfl)); (· rfl); simp only [putA]) | (apply x_condT; (· simp only [go_sem, *]; try rfl)) | (apply x_condF; (· simp only [go_sem, *]; try rfl)) | fail
            apply f_endO (S2 := (S.set b (Blk.cells [.int .i64 k, .int .i64 0, .int .i64 0, .str []])).set a (.cells [.str t, .int .i64 (scP t [] : Nat), .inil])) (L := [(Blk.cells [.str kw, .sval false [], .bool false, .bool false, .bool true, .int .i64 lo, .int .i64 hi, .int .i64 mx, .bool name])])
            · (simp only [go_sem, *]; try rfl)
            · (simp only [go_sem, *]; try rfl)
            · simp
            · exact out2 hO hi0 (fun _ => rfl) hab
            · (simp only [go_sem, *, Tryz.results45]; try rfl)
            · (simp only [go_sem, *]; try rfl)
            · (simp only [go_sem, *]; try rfl)
            · exact h
          · rw [decide_eq_false hz0] at hs0
            have hns : ¬ (k = 12 ∧ skipC s = []) := fun e => hz0 e.2
            simp only [if_neg hns] at h1 h0
            clear hz0 hk hns
            have hqu := fun (R : AOut → List Blk → Prop) => quoL w0 (S.set b (Blk.cells [.int .i64 k, .int .i64 0, .int .i64 0, .str []])) a t hPU (skipC s) [(Blk.cells [.str kw, .sval false [], .bool false, .bool false, .bool true, .int .i64 lo, .int .i64 hi, .int .i64 mx, .bool name])] ht (hal _) (suf_skip hs) R
            simp only [quo_skip] at hqu
            cases hq : quoC s with
            | some w =>
              obtain ⟨x, r⟩ := w
              have hr := (quo_suf hq).trans hs
              have hqu := fun (R : AOut → List Blk → Prop) hh => hqu R (fun x' r' hx' _ => by rw [hq] at hx'; cases hx'; exact hh) (fun hn' => by rw [hq] at hn'; cases hn')
              have hsk := skipL w0 (S.set b (Blk.cells [.int .i64 k, .int .i64 0, .int .i64 0, .str x])) a t r .inil [(Blk.cells [.str kw, .sval false [], .bool false, .bool false, .bool true, .int .i64 lo, .int .i64 hi, .int .i64 mx, .bool name])] ht hi0 (hal _) hr
              have hr2 := suf_skip hr
              by_cases hz : skipC r = []
              · have h := h1 ⟨k, 0, 0, x⟩ (by simp only [hq, Option.map_some]; rw [if_pos hz])
                simp only [cmB] at h
                rw [decide_eq_true hz, hz] at hsk
                clear h1 h0 hz
                refine enter Tryz.func45 rfl (by decide +kernel) (by rw [Tryz.ntmps45]; simp) (by rw [Tryz.ntmps45]; decide) (fun hO => ?_); rw [Tryz.ntmps45]
                repeat' first | apply x_seq | apply x_skip | apply x_block | apply x_ops_nil | apply p_blk | apply p_end | (apply x_region; simp only [List.toList_toArray]) | (apply x_step0; (· rfl); (· simp only [go_sem, *]; try rfl); (· rfl); simp only [putA]) | (apply x_callA []; (· simp only [go_sem, *]; try rfl); (· rfl); (· simp only [go_sem, *]; try rfl); (· rfl); (iterate 2 (· simp only [go_sem, *]; try rfl)); (first | apply hs0 | apply hqu | apply hsk); simp only [afterCall, putA]) | (apply x_step; (iterate 2 (· simp only [go_sem, *]; try rfl)); (· rfl); simp only [putA]) | (apply x_condT; (· simp only [go_sem, *]; try rfl)) | (apply x_condF; (· simp only [go_sem, *]; try rfl)) | fail
                apply f_endO (S2 := (S.set b (Blk.cells [.int .i64 k, .int .i64 0, .int .i64 0, .str x])).set a (.cells [.str t, .int .i64 (scP t [] : Nat), .inil])) (L := [(Blk.cells [.str kw, .sval false [], .bool false, .bool false, .bool true, .int .i64 lo, .int .i64 hi, .int .i64 mx, .bool name])])
                · (simp only [go_sem, *]; try rfl)
                · (simp only [go_sem, *]; try rfl)
                · simp
                · exact out2 hO hi0 (fun _ => rfl) hab
                · (simp only [go_sem, *, Tryz.results45]; try rfl)
                · (simp only [go_sem, *]; try rfl)
                · (simp only [go_sem, *]; try rfl)
                · exact h
              · have h := h0 (by simp only [hq, Option.map_some]; rw [if_neg hz])
                have hf := fail' w0 (S.set b (Blk.cells [.int .i64 k, .int .i64 0, .int .i64 0, .str x])) a t (scP t (skipC r) : Nat) .inil hi0 (hal _) [(Blk.cells [.str kw, .sval false [], .bool false, .bool false, .bool true, .int .i64 lo, .int .i64 hi, .int .i64 mx, .bool name])]
                simp only [cmB] at h
                rw [decide_eq_false hz] at hsk
                clear h1 h0 hz
                refine enter Tryz.func45 rfl (by decide +kernel) (by rw [Tryz.ntmps45]; simp) (by rw [Tryz.ntmps45]; decide) (fun hO => ?_); rw [Tryz.ntmps45]
                repeat' first | apply x_seq | apply x_skip | apply x_block | apply x_ops_nil | apply p_blk | (apply x_region; simp only [List.toList_toArray]) | (apply x_step0; (· rfl); (· simp only [go_sem, *]; try rfl); (· rfl); simp only [putA]) | (apply x_callA []; (· simp only [go_sem, *]; try rfl); (· rfl); (· simp only [go_sem, *]; try rfl); (· rfl); (iterate 2 (· simp only [go_sem, *]; try rfl)); (first | apply hs0 | apply hqu | apply hsk | apply hf); simp only [afterCall, putA]) | (apply x_step; (iterate 2 (· simp only [go_sem, *]; try rfl)); (· rfl); simp only [putA]) | (apply x_condT; (· simp only [go_sem, *]; try rfl)) | (apply x_condF; (· simp only [go_sem, *]; try rfl)) | fail
                intro q
                repeat' first | apply x_ops_nil | apply p_end | fail
                apply f_endO (S2 := (S.set b (Blk.cells [.int .i64 k, .int .i64 0, .int .i64 0, .str x])).set a (.cells [.str t, .int .i64 (scP t (skipC r) : Nat), errV q])) (L := [(Blk.cells [.str kw, .sval false [], .bool false, .bool false, .bool true, .int .i64 lo, .int .i64 hi, .int .i64 mx, .bool name])])
                · (simp only [go_sem, *]; try rfl)
                · (simp only [go_sem, *]; try rfl)
                · simp
                · exact out2 hO (errOk_v q) (fun _ => rfl) hab
                · (simp only [go_sem, *, Tryz.results45]; try rfl)
                · (simp only [go_sem, *]; try rfl)
                · (simp only [go_sem, *]; try rfl)
                · exact h q (skipC r) ⟨k, 0, 0, x⟩ hr2
            | none =>
              have hqu := fun (R : AOut → List Blk → Prop) hh => hqu R (fun x' r' hx' _ => by rw [hq] at hx'; cases hx') (fun _ => hh)
              have h := h0 (by simp only [hq, Option.map_none])
              simp only [cmB] at h
              clear h1 h0
              refine enter Tryz.func45 rfl (by decide +kernel) (by rw [Tryz.ntmps45]; simp) (by rw [Tryz.ntmps45]; decide) (fun hO => ?_); rw [Tryz.ntmps45]
              repeat' first | apply x_seq | apply x_skip | apply x_block | apply x_ops_nil | (apply x_region; simp only [List.toList_toArray]) | (apply x_step0; (· rfl); (· simp only [go_sem, *]; try rfl); (· rfl); simp only [putA]) | (apply x_callA []; (· simp only [go_sem, *]; try rfl); (· rfl); (· simp only [go_sem, *]; try rfl); (· rfl); (iterate 2 (· simp only [go_sem, *]; try rfl)); (first | apply hs0 | apply hqu); simp only [afterCall, putA]) | (apply x_step; (iterate 2 (· simp only [go_sem, *]; try rfl)); (· rfl); simp only [putA]) | (apply x_condT; (· simp only [go_sem, *]; try rfl)) | (apply x_condF; (· simp only [go_sem, *]; try rfl)) | fail
              intro q r hr
              have hr2 := suf_skip hr
              have hsk := skipL w0 (S.set b (Blk.cells [.int .i64 k, .int .i64 0, .int .i64 0, .str []])) a t r (errV q) [(Blk.cells [.str kw, .sval false [], .bool false, .bool false, .bool true, .int .i64 lo, .int .i64 hi, .int .i64 mx, .bool name])] ht (errOk_v q) (hal _) hr
              have hf := fail' w0 (S.set b (Blk.cells [.int .i64 k, .int .i64 0, .int .i64 0, .str []])) a t (scP t (skipC r) : Nat) (errV q) (errOk_v q) (hal _) [(Blk.cells [.str kw, .sval false [], .bool false, .bool false, .bool true, .int .i64 lo, .int .i64 hi, .int .i64 mx, .bool name])]
              by_cases hz : skipC r = []
              · rw [decide_eq_true hz] at hsk
                clear hz
                repeat' first | apply x_seq | apply x_skip | apply x_ops_nil | apply p_blk | apply p_end | (apply x_region; simp only [List.toList_toArray]) | (apply x_step0; (· rfl); (· simp only [go_sem, *]; try rfl); (· rfl); simp only [putA]) | (apply x_callA []; (· simp only [go_sem, *]; try rfl); (· rfl); (· simp only [go_sem, *]; try rfl); (· rfl); (iterate 2 (· simp only [go_sem, *]; try rfl)); (first | apply hsk); simp only [afterCall, putA]) | (apply x_condF; (· simp only [go_sem, *]; try rfl)) | fail
                apply f_endO (S2 := (S.set b (Blk.cells [.int .i64 k, .int .i64 0, .int .i64 0, .str []])).set a (.cells [.str t, .int .i64 (scP t (skipC r) : Nat), errV q])) (L := [(Blk.cells [.str kw, .sval false [], .bool false, .bool false, .bool true, .int .i64 lo, .int .i64 hi, .int .i64 mx, .bool name])])
                · (simp only [go_sem, *]; try rfl)
                · (simp only [go_sem, *]; try rfl)
                · simp
                · exact out2 hO (errOk_v q) (fun _ => rfl) hab
                · (simp only [go_sem, *, Tryz.results45]; try rfl)
                · (simp only [go_sem, *]; try rfl)
                · (simp only [go_sem, *]; try rfl)
                · exact h q (skipC r) ⟨k, 0, 0, []⟩ hr2
              · rw [decide_eq_false hz] at hsk
                clear hz
                repeat' first | apply x_seq | apply x_ops_nil | apply p_blk | (apply x_region; simp only [List.toList_toArray]) | (apply x_step0; (· rfl); (· simp only [go_sem, *]; try rfl); (· rfl); simp only [putA]) | (apply x_callA []; (· simp only [go_sem, *]; try rfl); (· rfl); (· simp only [go_sem, *]; try rfl); (· rfl); (iterate 2 (· simp only [go_sem, *]; try rfl)); (first | apply hsk | apply hf); simp only [afterCall, putA]) | (apply x_condT; (· simp only [go_sem, *]; try rfl)) | fail
                intro q2
                repeat' first | apply x_ops_nil | apply p_end | fail
                apply f_endO (S2 := (S.set b (Blk.cells [.int .i64 k, .int .i64 0, .int .i64 0, .str []])).set a (.cells [.str t, .int .i64 (scP t (skipC r) : Nat), errV q2])) (L := [(Blk.cells [.str kw, .sval false [], .bool false, .bool false, .bool true, .int .i64 lo, .int .i64 hi, .int .i64 mx, .bool name])])
                · (simp only [go_sem, *]; try rfl)
                · (simp only [go_sem, *]; try rfl)
                · simp
                · exact out2 hO (errOk_v q2) (fun _ => rfl) hab
                · (simp only [go_sem, *, Tryz.results45]; try rfl)
                · (simp only [go_sem, *]; try rfl)
                · (simp only [go_sem, *]; try rfl)
                · exact h q2 (skipC r) ⟨k, 0, 0, []⟩ hr2
        · have k1 : (k == 12) = false := by simpa using hk
          have hns : ¬ (k = 12 ∧ skipC s = []) := fun e => hk e.1
          simp only [if_neg hns] at h1 h0
          clear hk hns
          have hqu := fun (R : AOut → List Blk → Prop) => quoL w0 (S.set b (Blk.cells [.int .i64 k, .int .i64 0, .int .i64 0, .str []])) a t hPU s [(Blk.cells [.str kw, .sval false [], .bool false, .bool false, .bool true, .int .i64 lo, .int .i64 hi, .int .i64 mx, .bool name])] ht (hal _) hs R
          cases hq : quoC s with
          | some w =>
            obtain ⟨x, r⟩ := w
            have hr := (quo_suf hq).trans hs
            have hqu := fun (R : AOut → List Blk → Prop) hh => hqu R (fun x' r' hx' _ => by rw [hq] at hx'; cases hx'; exact hh) (fun hn' => by rw [hq] at hn'; cases hn')
            have hsk := skipL w0 (S.set b (Blk.cells [.int .i64 k, .int .i64 0, .int .i64 0, .str x])) a t r .inil [(Blk.cells [.str kw, .sval false [], .bool false, .bool false, .bool true, .int .i64 lo, .int .i64 hi, .int .i64 mx, .bool name])] ht hi0 (hal _) hr
            have hr2 := suf_skip hr
            by_cases hz : skipC r = []
            · have h := h1 ⟨k, 0, 0, x⟩ (by simp only [hq, Option.map_some]; rw [if_pos hz])
              simp only [cmB] at h
              rw [decide_eq_true hz, hz] at hsk
              clear h1 h0 hz
              refine enter Tryz.func45 rfl (by decide +kernel) (by rw [Tryz.ntmps45]; simp) (by rw [Tryz.ntmps45]; decide) (fun hO => ?_); rw [Tryz.ntmps45]
              repeat' first | apply x_seq | apply x_skip | apply x_block | apply x_ops_nil | apply p_blk | apply p_end | (apply x_region; simp only [List.toList_toArray]) | (apply x_step0; (· rfl); (· simp only [go_sem, *]; try rfl); (· rfl); simp only [putA]) | (apply x_callA []; (· simp only [go_sem, *]; try rfl); (· rfl); (· simp only [go_sem, *]; try rfl); (· rfl); (iterate 2 (· simp only [go_sem, *]; try rfl)); (first | apply hqu | apply hsk); simp only [afterCall, putA]) | (apply x_step; (iterate 2 (· simp only [go_sem, *]; try rfl)); (· rfl); simp only [putA]) | (apply x_unwanted; (· simp only [go_sem, *]; try rfl); (· rfl); simp only [putA]) | (apply x_condT; (· simp only [go_sem, *]; try rfl)) | (apply x_condF; (· simp only [go_sem, *]; try rfl)) | fail
              apply f_endO (S2 := (S.set b (Blk.cells [.int .i64 k, .int .i64 0, .int .i64 0, .str x])).set a (.cells [.str t, .int .i64 (scP t [] : Nat), .inil])) (L := [(Blk.cells [.str kw, .sval false [], .bool false, .bool false, .bool true, .int .i64 lo, .int .i64 hi, .int .i64 mx, .bool name])])
              · (simp only [go_sem, *]; try rfl)
              · (simp only [go_sem, *]; try rfl)
              · simp
              · exact out2 hO hi0 (fun _ => rfl) hab
              · (simp only [go_sem, *, Tryz.results45]; try rfl)
              · (simp only [go_sem, *]; try rfl)
              · (simp only [go_sem, *]; try rfl)
              · exact h
            · have h := h0 (by simp only [hq, Option.map_some]; rw [if_neg hz])
              have hf := fail' w0 (S.set b (Blk.cells [.int .i64 k, .int .i64 0, .int .i64 0, .str x])) a t (scP t (skipC r) : Nat) .inil hi0 (hal _) [(Blk.cells [.str kw, .sval false [], .bool false, .bool false, .bool true, .int .i64 lo, .int .i64 hi, .int .i64 mx, .bool name])]
              simp only [cmB] at h
              rw [decide_eq_false hz] at hsk
              clear h1 h0 hz
              refine enter Tryz.func45 rfl (by decide +kernel) (by rw [Tryz.ntmps45]; simp) (by rw [Tryz.ntmps45]; decide) (fun hO => ?_); rw [Tryz.ntmps45]
              repeat' first | apply x_seq | apply x_skip | apply x_block | apply x_ops_nil | apply p_blk | (apply x_region; simp only [List.toList_toArray]) | (apply x_step0; (· rfl); (· simp only [go_sem, *]; try rfl); (· rfl); simp only [putA]) | (apply x_callA []; (· simp only [go_sem, *]; try rfl); (· rfl); (· simp only [go_sem, *]; try rfl); (· rfl); (iterate 2 (· simp only [go_sem, *]; try rfl)); (first | apply hqu | apply hsk | apply hf); simp only [afterCall, putA]) | (apply x_step; (iterate 2 (· simp only [go_sem, *]; try rfl)); (· rfl); simp only [putA]) | (apply x_unwanted; (· simp only [go_sem, *]; try rfl); (· rfl); simp only [putA]) | (apply x_condT; (· simp only [go_sem, *]; try rfl)) | (apply x_condF; (· simp only [go_sem, *]; try rfl)) | fail
              intro q
              repeat' first | apply x_ops_nil | apply p_end | fail
              apply f_endO (S2 := (S.set b (Blk.cells [.int .i64 k, .int .i64 0, .int .i64 0, .str x])).set a (.cells [.str t, .int .i64 (scP t (skipC r) : Nat), errV q])) (L := [(Blk.cells [.str kw, .sval false [], .bool false, .bool false, .bool true, .int .i64 lo, .int .i64 hi, .int .i64 mx, .bool name])])
              · (simp only [go_sem, *]; try rfl)
              · (simp only [go_sem, *]; try rfl)
              · simp
              · exact out2 hO (errOk_v q) (fun _ => rfl) hab
              · (simp only [go_sem, *, Tryz.results45]; try rfl)
              · (simp only [go_sem, *]; try rfl)
              · (simp only [go_sem, *]; try rfl)
              · exact h q (skipC r) ⟨k, 0, 0, x⟩ hr2
          | none =>
            have hqu := fun (R : AOut → List Blk → Prop) hh => hqu R (fun x' r' hx' _ => by rw [hq] at hx'; cases hx') (fun _ => hh)
            have h := h0 (by simp only [hq, Option.map_none])
            simp only [cmB] at h
            clear h1 h0
            refine enter Tryz.func45 rfl (by decide +kernel) (by rw [Tryz.ntmps45]; simp) (by rw [Tryz.ntmps45]; decide) (fun hO => ?_); rw [Tryz.ntmps45]
            repeat' first | apply x_seq | apply x_skip | apply x_block | apply x_ops_nil | (apply x_region; simp only [List.toList_toArray]) | (apply x_step0; (· rfl); (· simp only [go_sem, *]; try rfl); (· rfl); simp only [putA]) | (apply x_callA []; (· simp only [go_sem, *]; try rfl); (· rfl); (· simp only [go_sem, *]; try rfl); (· rfl); (iterate 2 (· simp only [go_sem, *]; try rfl)); (first | apply hqu); simp only [afterCall, putA]) | (apply x_step; (iterate 2 (· simp only [go_sem, *]; try rfl)); (· rfl); simp only [putA]) | (apply x_unwanted; (· simp only [go_sem, *]; try rfl); (· rfl); simp only [putA]) | (apply x_condT; (· simp only [go_sem, *]; try rfl)) | (apply x_condF; (· simp only [go_sem, *]; try rfl)) | fail
            intro q r hr
            have hr2 := suf_skip hr
            have hsk := skipL w0 (S.set b (Blk.cells [.int .i64 k, .int .i64 0, .int .i64 0, .str []])) a t r (errV q) [(Blk.cells [.str kw, .sval false [], .bool false, .bool false, .bool true, .int .i64 lo, .int .i64 hi, .int .i64 mx, .bool name])] ht (errOk_v q) (hal _) hr
            have hf := fail' w0 (S.set b (Blk.cells [.int .i64 k, .int .i64 0, .int .i64 0, .str []])) a t (scP t (skipC r) : Nat) (errV q) (errOk_v q) (hal _) [(Blk.cells [.str kw, .sval false [], .bool false, .bool false, .bool true, .int .i64 lo, .int .i64 hi, .int .i64 mx, .bool name])]
            by_cases hz : skipC r = []
            · rw [decide_eq_true hz] at hsk
              clear hz
              repeat' first | apply x_seq | apply x_skip | apply x_ops_nil | apply p_blk | apply p_end | (apply x_region; simp only [List.toList_toArray]) | (apply x_step0; (· rfl); (· simp only [go_sem, *]; try rfl); (· rfl); simp only [putA]) | (apply x_callA []; (· simp only [go_sem, *]; try rfl); (· rfl); (· simp only [go_sem, *]; try rfl); (· rfl); (iterate 2 (· simp only [go_sem, *]; try rfl)); (first | apply hsk); simp only [afterCall, putA]) | (apply x_condF; (· simp only [go_sem, *]; try rfl)) | fail
              apply f_endO (S2 := (S.set b (Blk.cells [.int .i64 k, .int .i64 0, .int .i64 0, .str []])).set a (.cells [.str t, .int .i64 (scP t (skipC r) : Nat), errV q])) (L := [(Blk.cells [.str kw, .sval false [], .bool false, .bool false, .bool true, .int .i64 lo, .int .i64 hi, .int .i64 mx, .bool name])])
              · (simp only [go_sem, *]; try rfl)
              · (simp only [go_sem, *]; try rfl)
              · simp
              · exact out2 hO (errOk_v q) (fun _ => rfl) hab
              · (simp only [go_sem, *, Tryz.results45]; try rfl)
              · (simp only [go_sem, *]; try rfl)
              · (simp only [go_sem, *]; try rfl)
              · exact h q (skipC r) ⟨k, 0, 0, []⟩ hr2
            · rw [decide_eq_false hz] at hsk
              clear hz
              repeat' first | apply x_seq | apply x_ops_nil | apply p_blk | (apply x_region; simp only [List.toList_toArray]) | (apply x_step0; (· rfl); (· simp only [go_sem, *]; try rfl); (· rfl); simp only [putA]) | (apply x_callA []; (· simp only [go_sem, *]; try rfl); (· rfl); (· simp only [go_sem, *]; try rfl); (· rfl); (iterate 2 (· simp only [go_sem, *]; try rfl)); (first | apply hsk | apply hf); simp only [afterCall, putA]) | (apply x_condT; (· simp only [go_sem, *]; try rfl)) | fail
              intro q2
              repeat' first | apply x_ops_nil | apply p_end | fail
              apply f_endO (S2 := (S.set b (Blk.cells [.int .i64 k, .int .i64 0, .int .i64 0, .str []])).set a (.cells [.str t, .int .i64 (scP t (skipC r) : Nat), errV q2])) (L := [(Blk.cells [.str kw, .sval false [], .bool false, .bool false, .bool true, .int .i64 lo, .int .i64 hi, .int .i64 mx, .bool name])])
              · (simp only [go_sem, *]; try rfl)
              · (simp only [go_sem, *]; try rfl)
              · simp
              · exact out2 hO (errOk_v q2) (fun _ => rfl) hab
              · (simp only [go_sem, *, Tryz.results45]; try rfl)
              · (simp only [go_sem, *]; try rfl)
              · (simp only [go_sem, *]; try rfl)
              · exact h q2 (skipC r) ⟨k, 0, 0, []⟩ hr2
      | false =>
        simp only [Bool.false_eq_true, if_false] at h1 h0
        simp only [cmB]
        have hsk := skipL w0 (S.set b (Blk.cells [.int .i64 k, .int .i64 0, .int .i64 0, .str []])) a t s .inil [(Blk.cells [.str kw, .sval false [], .bool false, .bool false, .bool false, .int .i64 lo, .int .i64 hi, .int .i64 mx, .bool name])] ht hi0 (hal _) hs
        have hr2 := suf_skip hs
        by_cases hz : skipC s = []
        · have h := h1 ⟨k, 0, 0, []⟩ (by rw [if_pos hz])
          simp only [cmB] at h
          rw [decide_eq_true hz, hz] at hsk
          clear h1 h0 hz
          refine enter Tryz.func45 rfl (by decide +kernel) (by rw [Tryz.ntmps45]; simp) (by rw [Tryz.ntmps45]; decide) (fun hO => ?_); rw [Tryz.ntmps45]
          repeat' first | apply x_seq | apply x_skip | apply x_block | apply x_ops_nil | apply p_blk | apply p_end | (apply x_region; simp only [List.toList_toArray]) | (apply x_step0; (· rfl); (· simp only [go_sem, *]; try rfl); (· rfl); simp only [putA]) | (apply x_callA []; (· simp only [go_sem, *]; try rfl); (· rfl); (· simp only [go_sem, *]; try rfl); (· rfl); (iterate 2 (· simp only [go_sem, *]; try rfl)); (first | apply hsk); simp only [afterCall, putA]) | (apply x_unwanted; (· simp only [go_sem, *]; try rfl); (· rfl); simp only [putA]) | (apply x_condF; (· simp only [go_sem, *]; try rfl)) | fail
          apply f_endO (S2 := (S.set b (Blk.cells [.int .i64 k, .int .i64 0, .int .i64 0, .str []])).set a (.cells [.str t, .int .i64 (scP t [] : Nat), .inil])) (L := [(Blk.cells [.str kw, .sval false [], .bool false, .bool false, .bool false, .int .i64 lo, .int .i64 hi, .int .i64 mx, .bool name])])
          · (simp only [go_sem, *]; try rfl)
          · (simp only [go_sem, *]; try rfl)
          · simp
          · exact out2 hO hi0 (fun _ => rfl) hab
          · (simp only [go_sem, *, Tryz.results45]; try rfl)
          · (simp only [go_sem, *]; try rfl)
          · (simp only [go_sem, *]; try rfl)
          · exact h
        · have h := h0 (by rw [if_neg hz])
          have hf := fail' w0 (S.set b (Blk.cells [.int .i64 k, .int .i64 0, .int .i64 0, .str []])) a t (scP t (skipC s) : Nat) .inil hi0 (hal _) [(Blk.cells [.str kw, .sval false [], .bool false, .bool false, .bool false, .int .i64 lo, .int .i64 hi, .int .i64 mx, .bool name])]
          simp only [cmB] at h
          rw [decide_eq_false hz] at hsk
          clear h1 h0 hz
          refine enter Tryz.func45 rfl (by decide +kernel) (by rw [Tryz.ntmps45]; simp) (by rw [Tryz.ntmps45]; decide) (fun hO => ?_); rw [Tryz.ntmps45]
          repeat' first | apply x_seq | apply x_skip | apply x_block | apply x_ops_nil | apply p_blk | (apply x_region; simp only [List.toList_toArray]) | (apply x_step0; (· rfl); (· simp only [go_sem, *]; try rfl); (· rfl); simp only [putA]) | (apply x_callA []; (· simp only [go_sem, *]; try rfl); (· rfl); (· simp only [go_sem, *]; try rfl); (· rfl); (iterate 2 (· simp only [go_sem, *]; try rfl)); (first | apply hsk | apply hf); simp only [afterCall, putA]) | (apply x_unwanted; (· simp only [go_sem, *]; try rfl); (· rfl); simp only [putA]) | (apply x_condT; (· simp only [go_sem, *]; try rfl)) | (apply x_condF; (· simp only [go_sem, *]; try rfl)) | fail
          intro q
          repeat' first | apply x_ops_nil | apply p_end | fail
          apply f_endO (S2 := (S.set b (Blk.cells [.int .i64 k, .int .i64 0, .int .i64 0, .str []])).set a (.cells [.str t, .int .i64 (scP t (skipC s) : Nat), errV q])) (L := [(Blk.cells [.str kw, .sval false [], .bool false, .bool false, .bool false, .int .i64 lo, .int .i64 hi, .int .i64 mx, .bool name])])
          · (simp only [go_sem, *]; try rfl)
          · (simp only [go_sem, *]; try rfl)
          · simp
          · exact out2 hO (errOk_v q) (fun _ => rfl) hab
          · (simp only [go_sem, *, Tryz.results45]; try rfl)
          · (simp only [go_sem, *]; try rfl)
          · (simp only [go_sem, *]; try rfl)
          · exact h q (skipC s) ⟨k, 0, 0, []⟩ hr2
end Go.Proofs.YtcobfilbmfokoaaGreatDoor
namespace Go.Proofs.YtcobfilbmfokoaaGreatDoor
open Go Go.Fen
set_option linter.unusedSimpArgs false
set_option linter.unusedVariables false
attribute [local irreducible] RunX WP ACall AnyP OpA ProtL
set_option maxRecDepth 8000
theorem idx_some {l : List (List UInt8)} {w : List UInt8} {i : Nat} (h : idxC l w = some i) : l[i]? = some w := by
  unfold idxC at h
  rw [List.findIdx?_eq_some_iff_getElem] at h
  obtain ⟨h1, h2, _⟩ := h
  rw [List.getElem?_eq_getElem h1, eq_of_beq h2]
theorem idx_none {l : List (List UInt8)} {w : List UInt8} (h : idxC l w = none) : ∀ j : Nat, l[j]? ≠ some w := by
  intro j hj
  unfold idxC at h
  rw [List.findIdx?_eq_none_iff] at h
  have := h w (List.mem_of_getElem? hj)
  simp at this
set_option maxHeartbeats 16000000 in
theorem cArgs1 (w0 : World) (S : List Blk) (a b : Nat) (hab : a ≠ b) (ha : a < S.length) (hb : b < S.length) (t s : List UInt8) (ht : t.length ≤ 10000000) (hs : s <:+ t) (k : Int) (f : Fm) (hw : f.words ≠ []) (hwl : f.words.length ≤ 100)
    (hdi : ∀ i w, f.words[i]? = some w → idxC f.words w = some i) (hix : f.index = false) (htx : f.text = false) (R : AOut → List Blk → Prop)
    (h1 : ∀ c, argsC k f s = some c → R (.ret (.tup [])) ((S.set b (cmB c)).set a (.cells [.str t, .int .i64 (scP t [] : Nat), .inil])))
    (h0 : argsC k f s = none → ∀ q r c, r <:+ t → R (.ret (.tup [])) ((S.set b (cmB c)).set a (.cells [.str t, .int .i64 (scP t r : Nat), errV q]))) :
    ACall Tryz.prog w0 45 [.own a 0, f.av, .own b 0] ((S.set b (cmB ⟨k, 0, 0, []⟩)).set a (.cells [.str t, .int .i64 (scP t s : Nat), .inil])) R := by
  obtain ⟨kw, words, number, index, text, lo, hi, mx, name⟩ := f
  simp only at hw hwl hdi hix htx
  subst hix htx
  have hi0 : ErrOk .inil := .inl rfl
  have hga := fun C X L => get2a (S := S) (L := L) (b := b) ha C X
  have hgb := fun C X L => get2b (S := S) (L := L) hab hb C X
  have hsb := fun C X C' L => set2 (S := S) (L := L) hab hb C X C'
  have hga0 : ∀ C X, ((S.set b C).set a X)[a]? = some X := fun C X => by simpa using hga C X []
  have hgb0 : ∀ C X, ((S.set b C).set a X)[b]? = some C := fun C X => by simpa using hgb C X []
  have hgn : ∀ C X F, ((S.set b C).set a X ++ [F])[S.length]? = some F := fun C X F => by
    rw [List.getElem?_append_right (by simp)]; simp
  have hal : ∀ C, a < (S.set b C).length := fun C => by simpa using ha
  have hr1 := (suf_word hs).1
  have hwc1 : ∀ i0, idxC words (wordC s).1 = some i0 → wordsC ⟨kw, words, number, false, false, lo, hi, mx, name⟩ s = some ((i0 : Int), (wordC s).2) := fun i0 h => by
    unfold wordsC
    simp only
    rw [if_neg hw, h]
    rfl
  have hwc0 : idxC words (wordC s).1 = none → wordsC ⟨kw, words, number, false, false, lo, hi, mx, name⟩ s = none := fun h => by
    unfold wordsC
    simp only
    rw [if_neg hw, h]
    rfl
  unfold argsC at h1 h0
  simp only [Bool.false_eq_true, if_false] at h1 h0
  have hl0 : decide ((0 : Int) < (words.length : Int)) = true := by
    cases words with
    | nil => exact absurd rfl hw
    | cons x l => simp
  have okW := Str.ok words
  simp only [okEls, AV.cells] at okW
  unfold Fm.av
  simp only [cmB]
  have hwo := wordL w0 (S.set b (Blk.cells [.int .i64 k, .int .i64 0, .int .i64 0, .str []])) a t s .inil [(Blk.cells [.str kw, .sval false (words.map AV.str), .bool number, .bool false, .bool false, .int .i64 lo, .int .i64 hi, .int .i64 mx, .bool name])] ht hi0 (hal _) hs
  obtain ⟨W, hW⟩ : ∃ W, (wordC s).1 = W := ⟨_, rfl⟩
  rw [hW] at hwo hwc1 hwc0
  have H1 := Lib.hid h1
  have H0 := Lib.hid h0
  have Hwc1 := Lib.hid hwc1
  have Hwc0 := Lib.hid hwc0
  clear h1 h0 hwc1 hwc0 hw hW
  refine enter Tryz.func45 rfl (by decide +kernel) (by rw [Tryz.ntmps45]; simp) (by rw [Tryz.ntmps45]; decide) (fun hO => ?_); rw [Tryz.ntmps45]
  repeat' first | apply x_seq | apply x_block | apply x_ops_nil | (apply x_region; simp only [List.toList_toArray]) | (apply x_step0; (· rfl); (· simp only [go_sem, *]; try rfl); (· rfl); simp only [putA]) | (apply x_callA []; (· simp only [go_sem, *]; try rfl); (· rfl); (· simp only [go_sem, *]; try rfl); (· rfl); (iterate 2 (· simp only [go_sem, *]; try rfl)); (first | apply hwo); simp only [afterCall, putA]) | (apply x_condT; (· simp only [go_sem, *]; try rfl)) | fail
  refine x_ind (fun (p : Nat × Int) env S' => p.1 ≤ words.length ∧ (∀ j, j < p.1 → words[j]? = some W → p.2 = j) ∧ ((∀ j, j < p.1 → words[j]? ≠ some W) → p.2 = -1) ∧ env 1000000 = .dfr [] ∧ env 0 = .own a 0 ∧ env 2 = .own b 0 ∧ env 4 = .own S.length 0 ∧ env 6 = .fn (.func 63) [.own a 0] [] ∧ env 7 = .str W ∧ env 22 = .sval false (words.map AV.str) ∧ env 23 = .int .i64 words.length ∧ env 24 = .int .i64 (p.1 : Int) ∧
    S' = (S.set b (Blk.cells [.int .i64 k, .int .i64 p.2, .int .i64 0, .str []])).set a (.cells [.str t, .int .i64 (scP t (wordC s).2 : Nat), .inil]) ++ [(Blk.cells [.str kw, .sval false (words.map AV.str), .bool number, .bool false, .bool false, .int .i64 lo, .int .i64 hi, .int .i64 mx, .bool name])]) (fun p => words.length - p.1) (0, -1) ?_ ?_
  · exact ⟨Nat.zero_le _, fun j hj => absurd hj (by omega), fun _ => rfl, by (simp only [go_sem, *]; try rfl), by (simp only [go_sem, *]; try rfl), by (simp only [go_sem, *]; try rfl), by (simp only [go_sem, *]; try rfl), by (simp only [go_sem, *]; try rfl), by (simp only [go_sem, *]; try rfl), by (simp only [go_sem, *]; try rfl), by (simp only [go_sem, *]; try rfl), by (simp only [go_sem, *]; try rfl), rfl⟩
  · rintro ⟨i, N⟩ env S' ⟨hi, hN1, hN2, e0, f0, f2, f4, f6, f7, f22, f23, f24, rfl⟩ IH
    have HI := Lib.hid IH
    have HN1 := Lib.hid hN1
    have HN2 := Lib.hid hN2
    have Hdi := Lib.hid hdi
    clear IH hN1 hN2 hdi
    simp only at hi f24
    by_cases hlt : i < words.length
    · obtain ⟨x, hx⟩ : ∃ x, words[i]? = some x := ⟨_, List.getElem?_eq_getElem hlt⟩
      have d1 : decide ((i : Int) < (words.length : Int)) = true := by simpa using hlt
      have hwi : IntKind.i64.wrap ((i : Int) + 1) = (i : Int) + 1 := IntWalk.i64_in _ (by omega)
      have Hlt := Lib.hid hlt
      clear hlt hi hwl
      by_cases hxw : x = W
      · subst hxw
        have dx : (x == x) = true := by simp
        have Hx := Lib.hid hx
        repeat' first | apply x_seq | apply x_skip | apply x_block | apply x_ops_nil | apply p_blk | (apply x_region; simp only [List.toList_toArray]) | (apply x_step0; (· rfl); (· simp only [go_sem, *]; try rfl); (· rfl); simp only [putA]) | (apply x_condT; (· simp only [go_sem, *]; try rfl)) | fail
        refine HI.out (i + 1, (i : Int)) _ _ (by have := Hlt.out; simp only; omega) ⟨Hlt.out, ?_, ?_, ?_, ?_, ?_, ?_, ?_, ?_, ?_, ?_, ?_, rfl⟩
        · intro j hj hjx
          have e1 := Hdi.out j x hjx
          rw [Hdi.out i x Hx.out] at e1
          simp only [Option.some.injEq] at e1
          first | omega | (simp only; omega)
        · intro hall
          exact absurd Hx.out (hall i (by first | omega | (simp only; omega)))
        all_goals (simp only [go_sem, *]; try rfl)
      · have dx : (x == W) = false := by simpa using hxw
        have Hx := Lib.hid hx
        have Hxw := Lib.hid hxw
        clear hxw
        repeat' first | apply x_seq | apply x_skip | apply x_block | apply x_ops_nil | apply p_blk | (apply x_region; simp only [List.toList_toArray]) | (apply x_step0; (· rfl); (· simp only [go_sem, *]; try rfl); (· rfl); simp only [putA]) | (apply x_condT; (· simp only [go_sem, *]; try rfl)) | (apply x_condF; (· simp only [go_sem, *]; try rfl)) | fail
        refine HI.out (i + 1, N) _ _ (by have := Hlt.out; simp only; omega) ⟨Hlt.out, ?_, ?_, ?_, ?_, ?_, ?_, ?_, ?_, ?_, ?_, ?_, rfl⟩
        · intro j hj hjx
          by_cases e : j = i
          · subst e
            rw [Hx.out] at hjx
            cases hjx
            exact absurd rfl Hxw.out
          · exact HN1.out j (by first | omega | (simp only at hj ⊢; omega)) hjx
        · intro hall
          exact HN2.out fun j hj => hall j (by first | omega | (simp only at hj ⊢; omega))
        all_goals (simp only [go_sem, *]; try rfl)
    · have d1 : decide ((i : Int) < (words.length : Int)) = false := by simpa using hlt
      have hie : i = words.length := by omega
      cases hid : idxC words W with
      | some i0 =>
        have hi0' := idx_some hid
        have hNe : N = i0 := HN1.out i0 (by have := (List.getElem?_eq_some_iff.1 hi0').1; first | omega | (simp only; omega)) hi0'
        subst hNe
        have d2 : decide ((i0 : Int) < 0) = false := by simp
        have hwc := Hwc1.out i0 hid
        simp only [hwc] at H1 H0
        clear hwc
        clear hi0' hid hie hlt hi HI HN1 HN2 Hdi hwl hwo
        cases number with
        | true =>
          simp only [if_true] at H1 H0
          have hnu := fun (R : AOut → List Blk → Prop) => numL w0 (S.set b (Blk.cells [.int .i64 k, .int .i64 i0, .int .i64 0, .str []])) a t (wordC s).2 .inil [(Blk.cells [.str kw, .sval false (words.map AV.str), .bool true, .bool false, .bool false, .int .i64 lo, .int .i64 hi, .int .i64 mx, .bool name])] ht hi0 (hal _) hr1 R
          have hr3 := (suf_word hr1).1
          cases hn : numC (wordC (wordC s).2).1 with
          | some n =>
            have hnu := fun (R : AOut → List Blk → Prop) hh => hnu R (fun n' hn' => by rw [hn] at hn'; cases hn'; exact hh) (fun hn' => by rw [hn] at hn'; cases hn')
            have hsk := skipL w0 (S.set b (Blk.cells [.int .i64 k, .int .i64 i0, .int .i64 n, .str []])) a t (wordC (wordC s).2).2 .inil [(Blk.cells [.str kw, .sval false (words.map AV.str), .bool true, .bool false, .bool false, .int .i64 lo, .int .i64 hi, .int .i64 mx, .bool name])] ht hi0 (hal _) hr3
            have hr2 := suf_skip hr3
            by_cases hz : skipC (wordC (wordC s).2).2 = []
            · have h := H1.out ⟨k, i0, n, []⟩ (by simp only [hn, Option.map_some]; rw [if_pos hz])
              simp only [cmB] at h
              rw [decide_eq_true hz, hz] at hsk
              clear hz
              repeat' first | apply x_seq | apply x_skip | apply x_block | apply x_exit | apply x_ops_nil | apply p_blk | apply p_exit_it | apply p_exit_hit | apply p_end | (apply x_region; simp only [List.toList_toArray]) | (apply x_step0; (· rfl); (· simp only [go_sem, *]; try rfl); (· rfl); simp only [putA]) | (apply x_callA []; (· simp only [go_sem, *]; try rfl); (· rfl); (· simp only [go_sem, *]; try rfl); (· rfl); (iterate 2 (· simp only [go_sem, *]; try rfl)); (first | apply hnu | apply hsk); simp only [afterCall, putA]) | (apply x_condT; (· simp only [go_sem, *]; try rfl)) | (apply x_condF; (· simp only [go_sem, *]; try rfl)) | fail
              apply f_endO (S2 := (S.set b (Blk.cells [.int .i64 k, .int .i64 i0, .int .i64 n, .str []])).set a (.cells [.str t, .int .i64 (scP t [] : Nat), .inil])) (L := [(Blk.cells [.str kw, .sval false (words.map AV.str), .bool true, .bool false, .bool false, .int .i64 lo, .int .i64 hi, .int .i64 mx, .bool name])])
              · (simp only [go_sem, *]; try rfl)
              · (simp only [go_sem, *]; try rfl)
              · simp
              · exact out2 hO hi0 (fun _ => rfl) hab
              · (simp only [go_sem, *, Tryz.results45]; try rfl)
              · (simp only [go_sem, *]; try rfl)
              · (simp only [go_sem, *]; try rfl)
              · exact h
            · have h := H0.out (by simp only [hn, Option.map_some]; rw [if_neg hz])
              have hf := fail' w0 (S.set b (Blk.cells [.int .i64 k, .int .i64 i0, .int .i64 n, .str []])) a t (scP t (skipC (wordC (wordC s).2).2) : Nat) .inil hi0 (hal _) [(Blk.cells [.str kw, .sval false (words.map AV.str), .bool true, .bool false, .bool false, .int .i64 lo, .int .i64 hi, .int .i64 mx, .bool name])]
              simp only [cmB] at h
              rw [decide_eq_false hz] at hsk
              clear hz
              repeat' first | apply x_seq | apply x_skip | apply x_block | apply x_exit | apply x_ops_nil | apply p_blk | apply p_exit_it | apply p_exit_hit | (apply x_region; simp only [List.toList_toArray]) | (apply x_step0; (· rfl); (· simp only [go_sem, *]; try rfl); (· rfl); simp only [putA]) | (apply x_callA []; (· simp only [go_sem, *]; try rfl); (· rfl); (· simp only [go_sem, *]; try rfl); (· rfl); (iterate 2 (· simp only [go_sem, *]; try rfl)); (first | apply hnu | apply hsk | apply hf); simp only [afterCall, putA]) | (apply x_condT; (· simp only [go_sem, *]; try rfl)) | (apply x_condF; (· simp only [go_sem, *]; try rfl)) | fail
              intro q
              repeat' first | apply x_ops_nil | apply p_end | fail
              apply f_endO (S2 := (S.set b (Blk.cells [.int .i64 k, .int .i64 i0, .int .i64 n, .str []])).set a (.cells [.str t, .int .i64 (scP t (skipC (wordC (wordC s).2).2) : Nat), errV q])) (L := [(Blk.cells [.str kw, .sval false (words.map AV.str), .bool true, .bool false, .bool false, .int .i64 lo, .int .i64 hi, .int .i64 mx, .bool name])])
              · (simp only [go_sem, *]; try rfl)
              · (simp only [go_sem, *]; try rfl)
              · simp
              · exact out2 hO (errOk_v q) (fun _ => rfl) hab
              · (simp only [go_sem, *, Tryz.results45]; try rfl)
              · (simp only [go_sem, *]; try rfl)
              · (simp only [go_sem, *]; try rfl)
              · exact h q (skipC (wordC (wordC s).2).2) ⟨k, i0, n, []⟩ hr2
          | none =>
            have hnu := fun (R : AOut → List Blk → Prop) hh => hnu R (fun n' hn' => by rw [hn] at hn'; cases hn') (fun _ => hh)
            have h := H0.out (by simp only [hn, Option.map_none])
            simp only [cmB] at h
            repeat' first | apply x_seq | apply x_skip | apply x_block | apply x_exit | apply x_ops_nil | apply p_exit_it | apply p_exit_hit | (apply x_region; simp only [List.toList_toArray]) | (apply x_step0; (· rfl); (· simp only [go_sem, *]; try rfl); (· rfl); simp only [putA]) | (apply x_callA []; (· simp only [go_sem, *]; try rfl); (· rfl); (· simp only [go_sem, *]; try rfl); (· rfl); (iterate 2 (· simp only [go_sem, *]; try rfl)); (first | apply hnu); simp only [afterCall, putA]) | (apply x_condT; (· simp only [go_sem, *]; try rfl)) | (apply x_condF; (· simp only [go_sem, *]; try rfl)) | fail
            intro q
            have hr2 := suf_skip hr3
            have hsk := skipL w0 (S.set b (Blk.cells [.int .i64 k, .int .i64 i0, .int .i64 0, .str []])) a t (wordC (wordC s).2).2 (errV q) [(Blk.cells [.str kw, .sval false (words.map AV.str), .bool true, .bool false, .bool false, .int .i64 lo, .int .i64 hi, .int .i64 mx, .bool name])] ht (errOk_v _) (hal _) hr3
            have hf := fail' w0 (S.set b (Blk.cells [.int .i64 k, .int .i64 i0, .int .i64 0, .str []])) a t (scP t (skipC (wordC (wordC s).2).2) : Nat) (errV q) (errOk_v _) (hal _) [(Blk.cells [.str kw, .sval false (words.map AV.str), .bool true, .bool false, .bool false, .int .i64 lo, .int .i64 hi, .int .i64 mx, .bool name])]
            by_cases hz : skipC (wordC (wordC s).2).2 = []
            · rw [decide_eq_true hz] at hsk
              clear hz
              repeat' first | apply x_seq | apply x_skip | apply x_ops_nil | apply p_blk | apply p_end | (apply x_region; simp only [List.toList_toArray]) | (apply x_step0; (· rfl); (· simp only [go_sem, *]; try rfl); (· rfl); simp only [putA]) | (apply x_callA []; (· simp only [go_sem, *]; try rfl); (· rfl); (· simp only [go_sem, *]; try rfl); (· rfl); (iterate 2 (· simp only [go_sem, *]; try rfl)); (first | apply hsk); simp only [afterCall, putA]) | (apply x_condF; (· simp only [go_sem, *]; try rfl)) | fail
              apply f_endO (S2 := (S.set b (Blk.cells [.int .i64 k, .int .i64 i0, .int .i64 0, .str []])).set a (.cells [.str t, .int .i64 (scP t (skipC (wordC (wordC s).2).2) : Nat), errV q])) (L := [(Blk.cells [.str kw, .sval false (words.map AV.str), .bool true, .bool false, .bool false, .int .i64 lo, .int .i64 hi, .int .i64 mx, .bool name])])
              · (simp only [go_sem, *]; try rfl)
              · (simp only [go_sem, *]; try rfl)
              · simp
              · exact out2 hO (errOk_v _) (fun _ => rfl) hab
              · (simp only [go_sem, *, Tryz.results45]; try rfl)
              · (simp only [go_sem, *]; try rfl)
              · (simp only [go_sem, *]; try rfl)
              · exact h _ (skipC (wordC (wordC s).2).2) ⟨k, i0, 0, []⟩ hr2
            · rw [decide_eq_false hz] at hsk
              clear hz
              repeat' first | apply x_seq | apply x_ops_nil | apply p_blk | (apply x_region; simp only [List.toList_toArray]) | (apply x_step0; (· rfl); (· simp only [go_sem, *]; try rfl); (· rfl); simp only [putA]) | (apply x_callA []; (· simp only [go_sem, *]; try rfl); (· rfl); (· simp only [go_sem, *]; try rfl); (· rfl); (iterate 2 (· simp only [go_sem, *]; try rfl)); (first | apply hsk | apply hf); simp only [afterCall, putA]) | (apply x_condT; (· simp only [go_sem, *]; try rfl)) | fail
              intro q2
              repeat' first | apply x_ops_nil | apply p_end | fail
              apply f_endO (S2 := (S.set b (Blk.cells [.int .i64 k, .int .i64 i0, .int .i64 0, .str []])).set a (.cells [.str t, .int .i64 (scP t (skipC (wordC (wordC s).2).2) : Nat), errV q2])) (L := [(Blk.cells [.str kw, .sval false (words.map AV.str), .bool true, .bool false, .bool false, .int .i64 lo, .int .i64 hi, .int .i64 mx, .bool name])])
              · (simp only [go_sem, *]; try rfl)
              · (simp only [go_sem, *]; try rfl)
              · simp
              · exact out2 hO (errOk_v q2) (fun _ => rfl) hab
              · (simp only [go_sem, *, Tryz.results45]; try rfl)
              · (simp only [go_sem, *]; try rfl)
              · (simp only [go_sem, *]; try rfl)
              · exact h q2 (skipC (wordC (wordC s).2).2) ⟨k, i0, 0, []⟩ hr2
        | false =>
          simp only [Bool.false_eq_true, if_false] at H1 H0
          have hsk := skipL w0 (S.set b (Blk.cells [.int .i64 k, .int .i64 i0, .int .i64 0, .str []])) a t (wordC s).2 .inil [(Blk.cells [.str kw, .sval false (words.map AV.str), .bool false, .bool false, .bool false, .int .i64 lo, .int .i64 hi, .int .i64 mx, .bool name])] ht hi0 (hal _) hr1
          have hr2 := suf_skip hr1
          by_cases hz : skipC (wordC s).2 = []
          · have h := H1.out ⟨k, i0, 0, []⟩ (by rw [if_pos hz])
            simp only [cmB] at h
            rw [decide_eq_true hz, hz] at hsk
            clear hz
            repeat' first | apply x_seq | apply x_skip | apply x_block | apply x_exit | apply x_ops_nil | apply p_blk | apply p_exit_it | apply p_exit_hit | apply p_end | (apply x_region; simp only [List.toList_toArray]) | (apply x_step0; (· rfl); (· simp only [go_sem, *]; try rfl); (· rfl); simp only [putA]) | (apply x_callA []; (· simp only [go_sem, *]; try rfl); (· rfl); (· simp only [go_sem, *]; try rfl); (· rfl); (iterate 2 (· simp only [go_sem, *]; try rfl)); (first | apply hsk); simp only [afterCall, putA]) | (apply x_unwanted; (· simp only [go_sem, *]; try rfl); (· rfl); simp only [putA]) | (apply x_condF; (· simp only [go_sem, *]; try rfl)) | fail
            apply f_endO (S2 := (S.set b (Blk.cells [.int .i64 k, .int .i64 i0, .int .i64 0, .str []])).set a (.cells [.str t, .int .i64 (scP t [] : Nat), .inil])) (L := [(Blk.cells [.str kw, .sval false (words.map AV.str), .bool false, .bool false, .bool false, .int .i64 lo, .int .i64 hi, .int .i64 mx, .bool name])])
            · (simp only [go_sem, *]; try rfl)
            · (simp only [go_sem, *]; try rfl)
            · simp
            · exact out2 hO hi0 (fun _ => rfl) hab
            · (simp only [go_sem, *, Tryz.results45]; try rfl)
            · (simp only [go_sem, *]; try rfl)
            · (simp only [go_sem, *]; try rfl)
            · exact h
          · have h := H0.out (by rw [if_neg hz])
            have hf := fail' w0 (S.set b (Blk.cells [.int .i64 k, .int .i64 i0, .int .i64 0, .str []])) a t (scP t (skipC (wordC s).2) : Nat) .inil hi0 (hal _) [(Blk.cells [.str kw, .sval false (words.map AV.str), .bool false, .bool false, .bool false, .int .i64 lo, .int .i64 hi, .int .i64 mx, .bool name])]
            simp only [cmB] at h
            rw [decide_eq_false hz] at hsk
            clear hz
            repeat' first | apply x_seq | apply x_skip | apply x_block | apply x_exit | apply x_ops_nil | apply p_blk | apply p_exit_it | apply p_exit_hit | (apply x_region; simp only [List.toList_toArray]) | (apply x_step0; (· rfl); (· simp only [go_sem, *]; try rfl); (· rfl); simp only [putA]) | (apply x_callA []; (· simp only [go_sem, *]; try rfl); (· rfl); (· simp only [go_sem, *]; try rfl); (· rfl); (iterate 2 (· simp only [go_sem, *]; try rfl)); (first | apply hsk | apply hf); simp only [afterCall, putA]) | (apply x_unwanted; (· simp only [go_sem, *]; try rfl); (· rfl); simp only [putA]) | (apply x_condT; (· simp only [go_sem, *]; try rfl)) | (apply x_condF; (· simp only [go_sem, *]; try rfl)) | fail
            intro q
            repeat' first | apply x_ops_nil | apply p_end | fail
            apply f_endO (S2 := (S.set b (Blk.cells [.int .i64 k, .int .i64 i0, .int .i64 0, .str []])).set a (.cells [.str t, .int .i64 (scP t (skipC (wordC s).2) : Nat), errV q])) (L := [(Blk.cells [.str kw, .sval false (words.map AV.str), .bool false, .bool false, .bool false, .int .i64 lo, .int .i64 hi, .int .i64 mx, .bool name])])
            · (simp only [go_sem, *]; try rfl)
            · (simp only [go_sem, *]; try rfl)
            · simp
            · exact out2 hO (errOk_v q) (fun _ => rfl) hab
            · (simp only [go_sem, *, Tryz.results45]; try rfl)
            · (simp only [go_sem, *]; try rfl)
            · (simp only [go_sem, *]; try rfl)
            · exact h q (skipC (wordC s).2) ⟨k, i0, 0, []⟩ hr2
      | none =>
        have hNe : N = -1 := HN2.out fun j _ => idx_none hid j
        subst hNe
        have hwc := Hwc0.out hid
        simp only [hwc] at H1 H0
        clear hwc
        have h := H0.out trivial
        simp only [cmB] at h
        clear hid hie hlt hi HI HN1 HN2 Hdi hwl hwo
        have hf1 := fail' w0 (S.set b (Blk.cells [.int .i64 k, .int .i64 (-1), .int .i64 0, .str []])) a t (scP t (wordC s).2 : Nat) .inil hi0 (hal _) [(Blk.cells [.str kw, .sval false (words.map AV.str), .bool number, .bool false, .bool false, .int .i64 lo, .int .i64 hi, .int .i64 mx, .bool name])]
        repeat' first | apply x_seq | apply x_exit | apply x_ops_nil | apply p_exit_it | apply p_exit_hit | (apply x_region; simp only [List.toList_toArray]) | (apply x_step0; (· rfl); (· simp only [go_sem, *]; try rfl); (· rfl); simp only [putA]) | (apply x_callA []; (· simp only [go_sem, *]; try rfl); (· rfl); (· simp only [go_sem, *]; try rfl); (· rfl); (iterate 2 (· simp only [go_sem, *]; try rfl)); (first | apply hf1); simp only [afterCall, putA]) | (apply x_condT; (· simp only [go_sem, *]; try rfl)) | (apply x_condF; (· simp only [go_sem, *]; try rfl)) | fail
        intro q1
        cases number with
        | true =>
          have hr3 := (suf_word hr1).1
          have hnu := fun (R : AOut → List Blk → Prop) => numL w0 (S.set b (Blk.cells [.int .i64 k, .int .i64 (-1), .int .i64 0, .str []])) a t (wordC s).2 (errV q1) [(Blk.cells [.str kw, .sval false (words.map AV.str), .bool true, .bool false, .bool false, .int .i64 lo, .int .i64 hi, .int .i64 mx, .bool name])] ht (errOk_v q1) (hal _) hr1 R
          cases hn : numC (wordC (wordC s).2).1 with
          | some n =>
            have hnu := fun (R : AOut → List Blk → Prop) hh => hnu R (fun n' hn' => by rw [hn] at hn'; cases hn'; exact hh) (fun hn' => by rw [hn] at hn'; cases hn')
            have hr2 := suf_skip hr3
            have hsk := skipL w0 (S.set b (Blk.cells [.int .i64 k, .int .i64 (-1), .int .i64 n, .str []])) a t (wordC (wordC s).2).2 (errV q1) [(Blk.cells [.str kw, .sval false (words.map AV.str), .bool true, .bool false, .bool false, .int .i64 lo, .int .i64 hi, .int .i64 mx, .bool name])] ht (errOk_v _) (hal _) hr3
            have hf := fail' w0 (S.set b (Blk.cells [.int .i64 k, .int .i64 (-1), .int .i64 n, .str []])) a t (scP t (skipC (wordC (wordC s).2).2) : Nat) (errV q1) (errOk_v _) (hal _) [(Blk.cells [.str kw, .sval false (words.map AV.str), .bool true, .bool false, .bool false, .int .i64 lo, .int .i64 hi, .int .i64 mx, .bool name])]
            by_cases hz : skipC (wordC (wordC s).2).2 = []
            · rw [decide_eq_true hz] at hsk
              clear hz
              repeat' first | apply x_seq | apply x_skip | apply x_block | apply x_ops_nil | apply p_blk | apply p_end | (apply x_region; simp only [List.toList_toArray]) | (apply x_step0; (· rfl); (· simp only [go_sem, *]; try rfl); (· rfl); simp only [putA]) | (apply x_callA []; (· simp only [go_sem, *]; try rfl); (· rfl); (· simp only [go_sem, *]; try rfl); (· rfl); (iterate 2 (· simp only [go_sem, *]; try rfl)); (first | apply hnu | apply hsk); simp only [afterCall, putA]) | (apply x_condT; (· simp only [go_sem, *]; try rfl)) | (apply x_condF; (· simp only [go_sem, *]; try rfl)) | fail
              apply f_endO (S2 := (S.set b (Blk.cells [.int .i64 k, .int .i64 (-1), .int .i64 n, .str []])).set a (.cells [.str t, .int .i64 (scP t (skipC (wordC (wordC s).2).2) : Nat), errV q1])) (L := [(Blk.cells [.str kw, .sval false (words.map AV.str), .bool true, .bool false, .bool false, .int .i64 lo, .int .i64 hi, .int .i64 mx, .bool name])])
              · (simp only [go_sem, *]; try rfl)
              · (simp only [go_sem, *]; try rfl)
              · simp
              · exact out2 hO (errOk_v _) (fun _ => rfl) hab
              · (simp only [go_sem, *, Tryz.results45]; try rfl)
              · (simp only [go_sem, *]; try rfl)
              · (simp only [go_sem, *]; try rfl)
              · exact h _ (skipC (wordC (wordC s).2).2) ⟨k, (-1), n, []⟩ hr2
            · rw [decide_eq_false hz] at hsk
              clear hz
              repeat' first | apply x_seq | apply x_block | apply x_ops_nil | apply p_blk | (apply x_region; simp only [List.toList_toArray]) | (apply x_step0; (· rfl); (· simp only [go_sem, *]; try rfl); (· rfl); simp only [putA]) | (apply x_callA []; (· simp only [go_sem, *]; try rfl); (· rfl); (· simp only [go_sem, *]; try rfl); (· rfl); (iterate 2 (· simp only [go_sem, *]; try rfl)); (first | apply hnu | apply hsk | apply hf); simp only [afterCall, putA]) | (apply x_condT; (· simp only [go_sem, *]; try rfl)) | (apply x_condF; (· simp only [go_sem, *]; try rfl)) | fail
              intro q2
              repeat' first | apply x_ops_nil | apply p_end | fail
              apply f_endO (S2 := (S.set b (Blk.cells [.int .i64 k, .int .i64 (-1), .int .i64 n, .str []])).set a (.cells [.str t, .int .i64 (scP t (skipC (wordC (wordC s).2).2) : Nat), errV q2])) (L := [(Blk.cells [.str kw, .sval false (words.map AV.str), .bool true, .bool false, .bool false, .int .i64 lo, .int .i64 hi, .int .i64 mx, .bool name])])
              · (simp only [go_sem, *]; try rfl)
              · (simp only [go_sem, *]; try rfl)
              · simp
              · exact out2 hO (errOk_v q2) (fun _ => rfl) hab
              · (simp only [go_sem, *, Tryz.results45]; try rfl)
              · (simp only [go_sem, *]; try rfl)
              · (simp only [go_sem, *]; try rfl)
              · exact h q2 (skipC (wordC (wordC s).2).2) ⟨k, (-1), n, []⟩ hr2
          | none =>
            have hnu := fun (R : AOut → List Blk → Prop) hh => hnu R (fun n' hn' => by rw [hn] at hn'; cases hn') (fun _ => hh)
            repeat' first | apply x_seq | apply x_block | apply x_ops_nil | (apply x_region; simp only [List.toList_toArray]) | (apply x_step0; (· rfl); (· simp only [go_sem, *]; try rfl); (· rfl); simp only [putA]) | (apply x_callA []; (· simp only [go_sem, *]; try rfl); (· rfl); (· simp only [go_sem, *]; try rfl); (· rfl); (iterate 2 (· simp only [go_sem, *]; try rfl)); (first | apply hnu); simp only [afterCall, putA]) | (apply x_condT; (· simp only [go_sem, *]; try rfl)) | (apply x_condF; (· simp only [go_sem, *]; try rfl)) | fail
            intro q
            have hr2 := suf_skip hr3
            have hsk := skipL w0 (S.set b (Blk.cells [.int .i64 k, .int .i64 (-1), .int .i64 0, .str []])) a t (wordC (wordC s).2).2 (errV q) [(Blk.cells [.str kw, .sval false (words.map AV.str), .bool true, .bool false, .bool false, .int .i64 lo, .int .i64 hi, .int .i64 mx, .bool name])] ht (errOk_v _) (hal _) hr3
            have hf := fail' w0 (S.set b (Blk.cells [.int .i64 k, .int .i64 (-1), .int .i64 0, .str []])) a t (scP t (skipC (wordC (wordC s).2).2) : Nat) (errV q) (errOk_v _) (hal _) [(Blk.cells [.str kw, .sval false (words.map AV.str), .bool true, .bool false, .bool false, .int .i64 lo, .int .i64 hi, .int .i64 mx, .bool name])]
            by_cases hz : skipC (wordC (wordC s).2).2 = []
            · rw [decide_eq_true hz] at hsk
              clear hz
              repeat' first | apply x_seq | apply x_skip | apply x_ops_nil | apply p_blk | apply p_end | (apply x_region; simp only [List.toList_toArray]) | (apply x_step0; (· rfl); (· simp only [go_sem, *]; try rfl); (· rfl); simp only [putA]) | (apply x_callA []; (· simp only [go_sem, *]; try rfl); (· rfl); (· simp only [go_sem, *]; try rfl); (· rfl); (iterate 2 (· simp only [go_sem, *]; try rfl)); (first | apply hsk); simp only [afterCall, putA]) | (apply x_condF; (· simp only [go_sem, *]; try rfl)) | fail
              apply f_endO (S2 := (S.set b (Blk.cells [.int .i64 k, .int .i64 (-1), .int .i64 0, .str []])).set a (.cells [.str t, .int .i64 (scP t (skipC (wordC (wordC s).2).2) : Nat), errV q])) (L := [(Blk.cells [.str kw, .sval false (words.map AV.str), .bool true, .bool false, .bool false, .int .i64 lo, .int .i64 hi, .int .i64 mx, .bool name])])
              · (simp only [go_sem, *]; try rfl)
              · (simp only [go_sem, *]; try rfl)
              · simp
              · exact out2 hO (errOk_v _) (fun _ => rfl) hab
              · (simp only [go_sem, *, Tryz.results45]; try rfl)
              · (simp only [go_sem, *]; try rfl)
              · (simp only [go_sem, *]; try rfl)
              · exact h _ (skipC (wordC (wordC s).2).2) ⟨k, (-1), 0, []⟩ hr2
            · rw [decide_eq_false hz] at hsk
              clear hz
              repeat' first | apply x_seq | apply x_ops_nil | apply p_blk | (apply x_region; simp only [List.toList_toArray]) | (apply x_step0; (· rfl); (· simp only [go_sem, *]; try rfl); (· rfl); simp only [putA]) | (apply x_callA []; (· simp only [go_sem, *]; try rfl); (· rfl); (· simp only [go_sem, *]; try rfl); (· rfl); (iterate 2 (· simp only [go_sem, *]; try rfl)); (first | apply hsk | apply hf); simp only [afterCall, putA]) | (apply x_condT; (· simp only [go_sem, *]; try rfl)) | fail
              intro q2
              repeat' first | apply x_ops_nil | apply p_end | fail
              apply f_endO (S2 := (S.set b (Blk.cells [.int .i64 k, .int .i64 (-1), .int .i64 0, .str []])).set a (.cells [.str t, .int .i64 (scP t (skipC (wordC (wordC s).2).2) : Nat), errV q2])) (L := [(Blk.cells [.str kw, .sval false (words.map AV.str), .bool true, .bool false, .bool false, .int .i64 lo, .int .i64 hi, .int .i64 mx, .bool name])])
              · (simp only [go_sem, *]; try rfl)
              · (simp only [go_sem, *]; try rfl)
              · simp
              · exact out2 hO (errOk_v q2) (fun _ => rfl) hab
              · (simp only [go_sem, *, Tryz.results45]; try rfl)
              · (simp only [go_sem, *]; try rfl)
              · (simp only [go_sem, *]; try rfl)
              · exact h q2 (skipC (wordC (wordC s).2).2) ⟨k, (-1), 0, []⟩ hr2
        | false =>
          have hr2 := suf_skip hr1
          have hsk := skipL w0 (S.set b (Blk.cells [.int .i64 k, .int .i64 (-1), .int .i64 0, .str []])) a t (wordC s).2 (errV q1) [(Blk.cells [.str kw, .sval false (words.map AV.str), .bool false, .bool false, .bool false, .int .i64 lo, .int .i64 hi, .int .i64 mx, .bool name])] ht (errOk_v _) (hal _) hr1
          have hf := fail' w0 (S.set b (Blk.cells [.int .i64 k, .int .i64 (-1), .int .i64 0, .str []])) a t (scP t (skipC (wordC s).2) : Nat) (errV q1) (errOk_v _) (hal _) [(Blk.cells [.str kw, .sval false (words.map AV.str), .bool false, .bool false, .bool false, .int .i64 lo, .int .i64 hi, .int .i64 mx, .bool name])]
          by_cases hz : skipC (wordC s).2 = []
          · rw [decide_eq_true hz] at hsk
            clear hz
            repeat' first | apply x_seq | apply x_skip | apply x_block | apply x_ops_nil | apply p_blk | apply p_end | (apply x_region; simp only [List.toList_toArray]) | (apply x_step0; (· rfl); (· simp only [go_sem, *]; try rfl); (· rfl); simp only [putA]) | (apply x_callA []; (· simp only [go_sem, *]; try rfl); (· rfl); (· simp only [go_sem, *]; try rfl); (· rfl); (iterate 2 (· simp only [go_sem, *]; try rfl)); (first | apply hsk); simp only [afterCall, putA]) | (apply x_unwanted; (· simp only [go_sem, *]; try rfl); (· rfl); simp only [putA]) | (apply x_condF; (· simp only [go_sem, *]; try rfl)) | fail
            apply f_endO (S2 := (S.set b (Blk.cells [.int .i64 k, .int .i64 (-1), .int .i64 0, .str []])).set a (.cells [.str t, .int .i64 (scP t (skipC (wordC s).2) : Nat), errV q1])) (L := [(Blk.cells [.str kw, .sval false (words.map AV.str), .bool false, .bool false, .bool false, .int .i64 lo, .int .i64 hi, .int .i64 mx, .bool name])])
            · (simp only [go_sem, *]; try rfl)
            · (simp only [go_sem, *]; try rfl)
            · simp
            · exact out2 hO (errOk_v _) (fun _ => rfl) hab
            · (simp only [go_sem, *, Tryz.results45]; try rfl)
            · (simp only [go_sem, *]; try rfl)
            · (simp only [go_sem, *]; try rfl)
            · exact h _ (skipC (wordC s).2) ⟨k, (-1), 0, []⟩ hr2
          · rw [decide_eq_false hz] at hsk
            clear hz
            repeat' first | apply x_seq | apply x_skip | apply x_block | apply x_ops_nil | apply p_blk | (apply x_region; simp only [List.toList_toArray]) | (apply x_step0; (· rfl); (· simp only [go_sem, *]; try rfl); (· rfl); simp only [putA]) | (apply x_callA []; (· simp only [go_sem, *]; try rfl); (· rfl); (· simp only [go_sem, *]; try rfl); (· rfl); (iterate 2 (· simp only [go_sem, *]; try rfl)); (first | apply hsk | apply hf); simp only [afterCall, putA]) | (apply x_unwanted; (· simp only [go_sem, *]; try rfl); (· rfl); simp only [putA]) | (apply x_condT; (· simp only [go_sem, *]; try rfl)) | (apply x_condF; (· simp only [go_sem, *]; try rfl)) | fail
            intro q2
            repeat' first | apply x_ops_nil | apply p_end | fail
            apply f_endO (S2 := (S.set b (Blk.cells [.int .i64 k, .int .i64 (-1), .int .i64 0, .str []])).set a (.cells [.str t, .int .i64 (scP t (skipC (wordC s).2) : Nat), errV q2])) (L := [(Blk.cells [.str kw, .sval false (words.map AV.str), .bool false, .bool false, .bool false, .int .i64 lo, .int .i64 hi, .int .i64 mx, .bool name])])
            · (simp only [go_sem, *]; try rfl)
            · (simp only [go_sem, *]; try rfl)
            · simp
            · exact out2 hO (errOk_v q2) (fun _ => rfl) hab
            · (simp only [go_sem, *, Tryz.results45]; try rfl)
            · (simp only [go_sem, *]; try rfl)
            · (simp only [go_sem, *]; try rfl)
            · exact h q2 (skipC (wordC s).2) ⟨k, (-1), 0, []⟩ hr2
end Go.Proofs.YtcobfilbmfokoaaGreatDoor
namespace Go.Proofs.YtcobfilbmfokoaaGreatDoor
open Go Go.Fen
set_option linter.unusedSimpArgs false
set_option linter.unusedVariables false
attribute [local irreducible] RunX WP ACall AnyP OpA ProtL
set_option maxRecDepth 8000
theorem form_small : (formsL.all fun e => decide (e.2.words.length ≤ 100)) = true := by decide +kernel
theorem cArgs (w0 : World) (hPU : PU16 w0) (S : List Blk) (a b : Nat) (hab : a ≠ b) (ha : a < S.length) (hb : b < S.length) (t s : List UInt8) (ht : t.length ≤ 10000000) (hs : s <:+ t) (k : Int) (f : Fm) (hm : (k, f) ∈ formsL) (R : AOut → List Blk → Prop)
    (h1 : ∀ c, argsC k f s = some c → R (.ret (.tup [])) ((S.set b (cmB c)).set a (.cells [.str t, .int .i64 (scP t [] : Nat), .inil])))
    (h0 : argsC k f s = none → ∀ q r c, r <:+ t → R (.ret (.tup [])) ((S.set b (cmB c)).set a (.cells [.str t, .int .i64 (scP t r : Nat), errV q]))) :
    ACall Tryz.prog w0 45 [.own a 0, f.av, .own b 0] ((S.set b (cmB ⟨k, 0, 0, []⟩)).set a (.cells [.str t, .int .i64 (scP t s : Nat), .inil])) R := by
  have hg := List.all_eq_true.1 forms_good _ hm
  simp only [goodF, Bool.and_eq_true, decide_eq_true_eq, Bool.or_eq_true, Bool.not_eq_true', List.all_eq_true, List.mem_range] at hg
  obtain ⟨_, _, _, g4, g5, g6, g7⟩ := hg
  by_cases hw : f.words = []
  · refine cArgs0 w0 hPU S a b hab ha hb t s ht hs k f hw (fun hi => ?_) (fun hn => ?_) R h1 h0
    · rcases g5 with g | g
      · rw [g] at hi; cases hi
      · exact g.2.2.2
    · rcases g6 with g | g
      · rw [g] at hn; cases hn
      · exact g.2.2
  · have hsm := List.all_eq_true.1 form_small _ hm
    simp only [decide_eq_true_eq] at hsm
    refine cArgs1 w0 S a b hab ha hb t s ht hs k f hw hsm (fun i w hi => ?_) ?_ ?_ R h1 h0
    · have hil := (List.getElem?_eq_some_iff.1 hi).1
      have := (g4 i hil).2
      rw [List.getD_eq_getElem?_getD, hi] at this
      exact this
    · cases hh : f.index with
      | false => rfl
      | true =>
        rcases g5 with g | g
        · rw [hh] at g; cases g
        · exact absurd g.1 hw
    · cases hh : f.text with
      | false => rfl
      | true =>
        rcases g7 with g | g
        · rw [hh] at g; cases g
        · exact absurd g hw
theorem key_of {k : Int} {f : Fm} (hm : (k, f) ∈ formsL) : keyC f.kw = some (k, f) := by
  have hg := List.all_eq_true.1 forms_good _ hm
  simp only [goodF, Bool.and_eq_true, decide_eq_true_eq] at hg
  exact hg.2.1
theorem key_none {w : List UInt8} (h : ∀ e ∈ formsL, e.2.kw ≠ w) : keyC w = none := by
  unfold keyC
  rw [List.find?_eq_none]
  intro e he
  simp only [beq_iff_eq]
  exact h e he
theorem forms_memA {e : AV × AV} (h : e ∈ formsAV) : ∃ k f, (k, f) ∈ formsL ∧ e = (.int .i64 k, f.av) := by
  unfold formsAV at h
  obtain ⟨x, hx, rfl⟩ := List.mem_map.1 h
  exact ⟨x.1, x.2, hx, rfl⟩
theorem forms_lt {es : List (AV × AV)} (h : ∀ x ∈ es, x ∈ formsAV) (n : Nat) : ltP n es = true := by
  rw [ltP_iff]
  intro x hx
  obtain ⟨k, f, _, rfl⟩ := forms_memA (h x hx)
  refine ⟨rfl, ?_⟩
  simp [Fm.av, AV.lt, ltL, Str.ltL]
set_option maxHeartbeats 16000000 in
theorem cParse0 (w0 : World) (hPU : PU16 w0) (S : List Blk) (s : List UInt8) (hs : s.length ≤ 10000000) (R : AOut → List Blk → Prop)
    (h1 : ∀ c, readC s = some c → R (.ret (.tup [c.av, .inil])) S) (h0 : readC s = none → ∀ c q, R (.ret (.tup [Cm.av c, errV q])) S) :
    ACall Tryz.prog w0 31 [.str s] S R := by
  have hwo : ∀ R : AOut → List Blk → Prop, R (.ret (.str (wordC s).1)) (S ++ [(Blk.cells [.int .i64 0, .int .i64 0, .int .i64 0, .str []]), (Blk.cells [.str s, .int .i64 (scP s (wordC s).2 : Nat), .inil])]) → ACall Tryz.prog w0 44 [.own (S.length + 1) 0] (S ++ [(Blk.cells [.int .i64 0, .int .i64 0, .int .i64 0, .str []]), Blk.cells [.str s, .int .i64 0, .inil]]) R := fun R hR => by
    refine cWord w0 _ (S.length + 1) s s .inil hs (.inl rfl) ?_ (List.suffix_refl s) R ?_
    · rw [List.getElem?_append_right (by omega)]
      simp [scP]
    · rw [List.set_append_right _ _ (by omega)]
      simpa using hR
  have hsw := (suf_word (List.suffix_refl s)).1
  have hfo := forms w0
  have hle := forms_lt (es := formsAV) fun x hx => hx
  have hrd : ∀ k f, (k, f) ∈ formsL → f.kw = (wordC s).1 → readC s = argsC k f (wordC s).2 := fun k f hm hk => by
    unfold readC
    rw [← hk, key_of hm]
  have hrn : (∀ e ∈ formsL, e.2.kw ≠ (wordC s).1) → readC s = none := fun h => by
    unfold readC
    rw [key_none h]
  obtain ⟨W, hW⟩ : ∃ W, (wordC s).1 = W := ⟨_, rfl⟩
  rw [hW] at hwo hrd hrn
  have Hrd := Lib.hid hrd
  have Hrn := Lib.hid hrn
  have H1 := Lib.hid h1
  have H0 := Lib.hid h0
  have Hsw := Lib.hid hsw
  clear hrd hrn h1 h0 hW hsw
  refine enter Tryz.func31 rfl (by decide +kernel) (by rw [Tryz.ntmps31]; simp) (by rw [Tryz.ntmps31]; decide) (fun hO => ?_); rw [Tryz.ntmps31]
  repeat' first | apply x_seq | apply x_block | apply x_ops_nil | (apply x_region; simp only [List.toList_toArray]) | (apply x_step0; (· rfl); (· simp only [go_sem, *]; try rfl); (· rfl); simp only [putA]) | (apply x_callA []; (· simp only [go_sem, *]; try rfl); (· rfl); (· simp only [go_sem, *]; try rfl); (· rfl); (iterate 2 (· simp only [go_sem, *]; try rfl)); (first | apply hwo | apply hfo); simp only [afterCall, putA]) | fail
  refine x_ind (fun (p : Option (AV × AV) × List (AV × AV) × List (AV × AV)) env S' => formsAV.Perm (p.2.1 ++ p.2.2) ∧ (∀ k f, (AV.int .i64 k, Fm.av f) ∈ p.2.1 → f.kw ≠ W) ∧ (∀ n, (Blk.mit p.1 []).ltB n = true) ∧ env 1000000 = .dfr [] ∧ env 2 = .own S.length 0 ∧ env 3 = .inil ∧ env 4 = .own (S.length + 1) 0 ∧ env 5 = .str W ∧ env 14 = .own (S.length + 2) 0 ∧
    S' = S ++ [(Blk.cells [.int .i64 0, .int .i64 0, .int .i64 0, .str []]), (Blk.cells [.str s, .int .i64 (scP s (wordC s).2 : Nat), .inil]), .mit p.1 p.2.2]) (fun p => p.2.2.length) (none, [], formsAV) ?_ ?_
  · exact ⟨.refl _, (fun k f h => by cases h), (fun _ => rfl), by (simp only [go_sem, *]; try rfl), by (simp only [go_sem, *]; try rfl), by (simp only [go_sem, *]; try rfl), by (simp only [go_sem, *]; try rfl), by (simp only [go_sem, *]; try rfl), by (simp only [go_sem, *]; try rfl), rfl⟩
  · rintro ⟨cur, vis, rest⟩ env S' ⟨hp, hv, hcur, e0, e2, e3, e4, e5, e14, rfl⟩ IH
    have HI := Lib.hid IH
    have HP := Lib.hid hp
    have HV := Lib.hid hv
    clear IH hp hv hwo hfo hle
    simp only at hcur
    repeat' first | apply x_seq | (apply x_region; simp only [List.toList_toArray]) | fail
    apply x_nextM
    · (simp only [go_sem, *]; try rfl)
    · rfl
    · (simp only [go_sem, *]; try rfl)
    · (simp only [go_sem, *]; try rfl)
    · rfl
    · intro hr
      have hp := HP.out
      rw [hr, List.append_nil] at hp
      have hn := Hrn.out fun e he hk => by
        obtain ⟨k, f⟩ := e
        exact HV.out k f (hp.mem_iff.1 (List.mem_map.2 ⟨(k, f), he, rfl⟩)) hk
      have h := H0.out hn ⟨0, 0, 0, []⟩
      unfold Cm.av at h
      clear hp hn
      subst hr
      have hf : ∀ R : AOut → List Blk → Prop, (∀ q, R (.ret (.tup [])) (S ++ [(Blk.cells [.int .i64 0, .int .i64 0, .int .i64 0, .str []]), (Blk.cells [.str s, .int .i64 (scP s (wordC s).2 : Nat), errV q]), .mit cur []])) → ACall Tryz.prog w0 46 [.own (S.length + 1) 0] (S ++ [(Blk.cells [.int .i64 0, .int .i64 0, .int .i64 0, .str []]), (Blk.cells [.str s, .int .i64 (scP s (wordC s).2 : Nat), .inil]), .mit cur []]) R := fun R hR => by
        refine cFail w0 _ (S.length + 1) s (scP s (wordC s).2 : Nat) .inil (.inl rfl) ?_ R (fun q => ?_)
        · rw [List.getElem?_append_right (by omega)]; simp
        · rw [List.set_append_right _ _ (by omega)]
          simpa using hR q
      simp only [errV] at hf h
      simp only [putA]
      repeat' first | apply x_seq | apply x_exit | apply x_ops_nil | apply p_exit_it | apply p_exit_hit | (apply x_region; simp only [List.toList_toArray]) | (apply x_step0; (· rfl); (· simp only [go_sem, *]; try rfl); (· rfl); simp only [putA]) | (apply x_callA []; (· simp only [go_sem, *]; try rfl); (· rfl); (· simp only [go_sem, *]; try rfl); (· rfl); (iterate 2 (· simp only [go_sem, *]; try rfl)); (first | apply hf); simp only [afterCall, putA]) | (apply x_condF; (· simp only [go_sem, *]; try rfl)) | fail
      intro q
      repeat' first | apply x_seq | apply x_ret | apply x_ops_nil | apply p_end | (apply d_draw; (· exact mixed); (· simp only [List.size_toArray, List.length_cons, List.length_nil, Nat.reduceAdd]; try rfl)) | (apply d_done; (· decide +kernel)) | (apply a_0; (repeat (apply a_s; (· decide +kernel))); apply a_take; (· decide +kernel); (· first | exact qds_FPost | exact qds_RPost | exact qds_YB | assumption); (· rfl); (iterate 3 (· simp only [go_sem, *]; try rfl)); (· rfl); (· simp only [go_sem, *]; try rfl); simp only [putA]) | (apply a_0; (repeat (apply a_o; (· decide +kernel))); apply a_one; (· decide +kernel)) | (apply o_step; (iterate 3 (· simp only [go_sem, *]; try rfl)); (· rfl); simp only [putA]) | apply pr_same | fail
      all_goals (apply f_ret; iterate 7 (· simp only [go_sem, *, Tryz.results31]; try rfl))
      all_goals exact h q
    · intro e rest' hr
      have hp : formsAV.Perm (vis ++ e :: rest') := HP.out.trans (List.Perm.append_left _ hr)
      obtain ⟨k, f, hm, rfl⟩ := forms_memA (hp.mem_iff.2 (List.mem_append_right _ (List.mem_cons_self ..)))
      have HL2 := Lib.hid (forms_lt (es := rest') fun x hx => hp.mem_iff.2 (List.mem_append_right _ (List.mem_cons_of_mem _ hx)))
      have HP2 := Lib.hid hp
      have HR := Lib.hid hr
      have hlr := hr.length_eq
      have Hlr := Lib.hid hlr
      clear hp hr hlr
      have hcl : ∀ n, (Blk.mit (some (.int .i64 k, f.av)) []).ltB n = true := fun n => by simp [Blk.ltB, ltP, Fm.av, AV.lt, ltL, Str.ltL]
      have hlt' := fun n => HL2.out n
      unfold Fm.av
      by_cases hkw : f.kw = W
      · have dk : (f.kw == W) = true := by simpa using hkw
        have hrd := Hrd.out k f hm hkw
        have har : ∀ R : AOut → List Blk → Prop, (∀ c, argsC k f (wordC s).2 = some c → R (.ret (.tup [])) (S ++ [cmB c, (Blk.cells [.str s, .int .i64 (scP s [] : Nat), .inil]), (Blk.mit (some (.int .i64 k, .agg [.str f.kw, .sval false (f.words.map AV.str), .bool f.number, .bool f.index, .bool f.text, .int .i64 f.lo, .int .i64 f.hi, .int .i64 f.mx, .bool f.name])) rest'), (Blk.cells [.str f.kw, .sval false (f.words.map AV.str), .bool f.number, .bool f.index, .bool f.text, .int .i64 f.lo, .int .i64 f.hi, .int .i64 f.mx, .bool f.name])])) → (argsC k f (wordC s).2 = none → ∀ q r c, r <:+ s → R (.ret (.tup [])) (S ++ [cmB c, .cells [.str s, .int .i64 (scP s r : Nat), errV q], (Blk.mit (some (.int .i64 k, .agg [.str f.kw, .sval false (f.words.map AV.str), .bool f.number, .bool f.index, .bool f.text, .int .i64 f.lo, .int .i64 f.hi, .int .i64 f.mx, .bool f.name])) rest'), (Blk.cells [.str f.kw, .sval false (f.words.map AV.str), .bool f.number, .bool f.index, .bool f.text, .int .i64 f.lo, .int .i64 f.hi, .int .i64 f.mx, .bool f.name])])) →
            ACall Tryz.prog w0 45 [.own (S.length + 1) 0, f.av, .own S.length 0] (S ++ [.cells [.int .i64 k, .int .i64 0, .int .i64 0, .str []], (Blk.cells [.str s, .int .i64 (scP s (wordC s).2 : Nat), .inil]), (Blk.mit (some (.int .i64 k, .agg [.str f.kw, .sval false (f.words.map AV.str), .bool f.number, .bool f.index, .bool f.text, .int .i64 f.lo, .int .i64 f.hi, .int .i64 f.mx, .bool f.name])) rest'), (Blk.cells [.str f.kw, .sval false (f.words.map AV.str), .bool f.number, .bool f.index, .bool f.text, .int .i64 f.lo, .int .i64 f.hi, .int .i64 f.mx, .bool f.name])]) R := fun R g1 g0 => by
          have hset : ∀ A B C D A' B', ((S ++ [A, B, C, D]).set S.length A').set (S.length + 1) B' = S ++ [A', B', C, D] := fun A B C D A' B' => by
            rw [List.set_append_right _ _ (by omega), List.set_append_right _ _ (by omega)]; simp
          have := cArgs w0 hPU (S ++ [.cells [.int .i64 k, .int .i64 0, .int .i64 0, .str []], (Blk.cells [.str s, .int .i64 (scP s (wordC s).2 : Nat), .inil]), (Blk.mit (some (.int .i64 k, .agg [.str f.kw, .sval false (f.words.map AV.str), .bool f.number, .bool f.index, .bool f.text, .int .i64 f.lo, .int .i64 f.hi, .int .i64 f.mx, .bool f.name])) rest'), (Blk.cells [.str f.kw, .sval false (f.words.map AV.str), .bool f.number, .bool f.index, .bool f.text, .int .i64 f.lo, .int .i64 f.hi, .int .i64 f.mx, .bool f.name])]) (S.length + 1) S.length (by omega) (by simp) (by simp) s (wordC s).2 hs Hsw.out k f hm R (fun c hc => by rw [hset]; exact g1 c hc) (fun hn q r c hr => by rw [hset]; exact g0 hn q r c hr)
          rw [hset] at this
          exact this
        unfold Fm.av at har
        cases hac : argsC k f (wordC s).2 with
        | some c =>
          have h := H1.out c (hrd.trans hac)
          have har := fun (R : AOut → List Blk → Prop) hh => har R (fun c' hc' => by rw [hac] at hc'; cases hc'; exact hh) (fun hn => by rw [hac] at hn; cases hn)
          unfold cmB at har
          unfold Cm.av at h
          clear hrd hac hkw HI
          simp only [putA]
          repeat' first | apply x_seq | apply x_skip | apply x_block | apply x_ret | apply x_ops_nil | apply p_ret_it | apply p_ret_blk | apply p_end | (apply x_region; simp only [List.toList_toArray]) | (apply x_step0; (· rfl); (· simp only [go_sem, *]; try rfl); (· rfl); simp only [putA]) | (apply x_callA []; (· simp only [go_sem, *]; try rfl); (· rfl); (· simp only [go_sem, *]; try rfl); (· rfl); (iterate 2 (· simp only [go_sem, *]; try rfl)); (first | apply har); simp only [afterCall, putA]) | (apply x_condT; (· simp only [go_sem, *]; try rfl)) | (apply d_draw; (· exact mixed); (· simp only [List.size_toArray, List.length_cons, List.length_nil, Nat.reduceAdd]; try rfl)) | (apply d_done; (· decide +kernel)) | (apply a_0; (repeat (apply a_s; (· decide +kernel))); apply a_take; (· decide +kernel); (· first | exact qds_FPost | exact qds_RPost | exact qds_YB | assumption); (· rfl); (iterate 3 (· simp only [go_sem, *]; try rfl)); (· rfl); (· simp only [go_sem, *]; try rfl); simp only [putA]) | (apply a_0; (repeat (apply a_o; (· decide +kernel))); apply a_one; (· decide +kernel)) | (apply o_step; (iterate 3 (· simp only [go_sem, *]; try rfl)); (· rfl); simp only [putA]) | apply pr_same | fail
          all_goals (apply f_ret; iterate 7 (· simp only [go_sem, *, Tryz.results31]; try rfl))
          all_goals exact h
        | none =>
          have h := H0.out (hrd.trans hac)
          have har := fun (R : AOut → List Blk → Prop) hh => har R (fun c' hc' => by rw [hac] at hc'; cases hc') (fun _ => hh)
          unfold cmB at har
          unfold Cm.av at h
          simp only [errV] at har h
          clear hrd hac hkw HI
          simp only [putA]
          repeat' first | apply x_seq | apply x_skip | apply x_block | apply x_ops_nil | (apply x_region; simp only [List.toList_toArray]) | (apply x_step0; (· rfl); (· simp only [go_sem, *]; try rfl); (· rfl); simp only [putA]) | (apply x_callA []; (· simp only [go_sem, *]; try rfl); (· rfl); (· simp only [go_sem, *]; try rfl); (· rfl); (iterate 2 (· simp only [go_sem, *]; try rfl)); (first | apply har); simp only [afterCall, putA]) | (apply x_condT; (· simp only [go_sem, *]; try rfl)) | fail
          intro q r c hrr
          repeat' first | apply x_seq | apply x_ret | apply x_ops_nil | apply p_ret_it | apply p_ret_blk | apply p_end | (apply d_draw; (· exact mixed); (· simp only [List.size_toArray, List.length_cons, List.length_nil, Nat.reduceAdd]; try rfl)) | (apply d_done; (· decide +kernel)) | (apply a_0; (repeat (apply a_s; (· decide +kernel))); apply a_take; (· decide +kernel); (· first | exact qds_FPost | exact qds_RPost | exact qds_YB | assumption); (· rfl); (iterate 3 (· simp only [go_sem, *]; try rfl)); (· rfl); (· simp only [go_sem, *]; try rfl); simp only [putA]) | (apply a_0; (repeat (apply a_o; (· decide +kernel))); apply a_one; (· decide +kernel)) | (apply o_step; (iterate 3 (· simp only [go_sem, *]; try rfl)); (· rfl); simp only [putA]) | apply pr_same | fail
          all_goals (apply f_ret; iterate 7 (· simp only [go_sem, *, Tryz.results31]; try rfl))
          all_goals exact h c q
      · have dk : (f.kw == W) = false := by simpa using hkw
        have Hkw := Lib.hid hkw
        clear hkw
        simp only [putA]
        repeat' first | apply x_seq | apply x_skip | apply x_block | apply x_ops_nil | apply p_blk | (apply x_region; simp only [List.toList_toArray]) | (apply x_step0; (· rfl); (· simp only [go_sem, *]; try rfl); (· rfl); simp only [putA]) | (apply x_condT; (· simp only [go_sem, *]; try rfl)) | (apply x_condF; (· simp only [go_sem, *]; try rfl)) | fail
        have hcl2 := hcl
        unfold Fm.av at hcl
        refine x_keep hO 3 [2, 3, 4, 5, 14] rfl (by (simp only [go_sem, *]; try rfl)) (by (simp only [go_sem, *]; try rfl)) ?_ ?_
        · simp only [List.take_succ_cons, List.take_zero, List.all_cons, List.all_nil, Bool.and_true, Bool.and_eq_true]
          refine ⟨rfl, rfl, ?_⟩
          have h1 := hcl (S.length + 3)
          have h2 := hlt' (S.length + 3)
          simp only [Blk.ltB] at h1 ⊢
          simp only [Bool.and_eq_true] at h1 ⊢
          exact ⟨h2, h1.2⟩
        · simp only [List.take_succ_cons, List.take_zero]
          refine HI.out (some (.int .i64 k, f.av), vis ++ [(.int .i64 k, f.av)], rest') _ _ ?_ ⟨?_, ?_, hcl2, ?_, ?_, ?_, ?_, ?_, ?_, rfl⟩
          · have := Hlr.out
            simp only [List.length_cons] at this ⊢
            omega
          · have := HP2.out
            simpa using this
          · intro k2 f2 hm2
            rcases List.mem_append.1 hm2 with h | h
            · exact HV.out k2 f2 h
            · rw [List.mem_singleton] at h
              have e2 := (Prod.mk.inj h).2
              have e3 : f2.kw = f.kw := by
                unfold Fm.av at e2
                simp only [AV.agg.injEq, List.cons.injEq, AV.str.injEq] at e2
                exact e2.1
              rw [e3]
              exact Hkw.out
          · (simp only [go_sem, *]; try rfl)
          · (simp only [go_sem, *]; try rfl)
          · (simp only [go_sem, *]; try rfl)
          · (simp only [go_sem, *]; try rfl)
          · (simp only [go_sem, *]; try rfl)
          · (simp only [go_sem, *]; try rfl)
end Go.Proofs.YtcobfilbmfokoaaGreatDoor
namespace Go.Proofs.YtcobfilbmfokoaaGreatDoor
open Go Go.Fen
set_option linter.unusedSimpArgs false
set_option linter.unusedVariables false
attribute [local irreducible] RunX WP ACall AnyP OpA ProtL
set_option maxRecDepth 8000
section
open Go.RowKit Go.Extern.Stop Go.Stop Go.Extern
theorem as_nil (t : Value) (w : World) :
    Calls Tryz.prog 32 #[.nilIface, t] w fun e w' => e = .returned (.bool false) ∧ w' = w := by
  go_enter Tryz.func32, Tryz.ntmps32
  go_wp2
  go_ret
  exact ⟨rfl, rfl⟩
theorem as_valueOf27 (t : Addr) (w : World) : (ReflectliteValue.unpack (.iface 72 (.pointer (some t)))).run Tryz.prog w
    = .ok (.agg #[.pointer (some ⟨9, 72, none⟩), .pointer (some ⟨w.heap.size, 0, none⟩), .int .u64 150]) (w.alloc (.cells #[.pointer (some t)] 72)) := by kernel_rfl
theorem as_type27 (a : Addr) (w : World) : (ReflectliteValue.methodAny (ReflectliteValue.valueError "reflectlite.Value.Type" 0) (fun t _ _ _ => ReflectliteType.toType t) #[.agg #[.pointer (some ⟨9, 72, none⟩), .pointer (some a), .int .u64 150]]).run Tryz.prog w
    = .ok (.iface 119 (.agg #[.pointer (some ⟨9, 72, none⟩)])) w := by kernel_rfl
theorem as_methodKind (h : Value) (w : World) : (Go.method 330 119 (.agg #[h]) "Kind").run Tryz.prog w = .ok (155, h) w := by kernel_rfl
theorem as_kind27 (w : World) : ((ReflectliteType.abiMethod fun t => (fun a : Nat => Value.int IntKind.u8 (a : Int)) <$> Rtype.kind t) #[.pointer (some ⟨9, 72, none⟩)]).run Tryz.prog w = .ok (.int .u8 22) w := by kernel_rfl
theorem as_kind25 (w : World) : ((ReflectliteType.abiMethod fun t => (fun a : Nat => Value.int IntKind.u8 (a : Int)) <$> Rtype.kind t) #[.pointer (some ⟨9, 70, none⟩)]).run Tryz.prog w = .ok (.int .u8 22) w := by kernel_rfl
theorem rlm (z : Sem Value) (f : TypeId → Addr → Nat → Nat → Sem Value) (v : Value) :
    ReflectliteValue.method z f #[v] = (do match ← ReflectliteValue.parts v with | none => z | some (t, a, fl) => f t a fl (fl % 32)) := rfl
theorem as_parts27 (a : Addr) (w : World) : (ReflectliteValue.parts (.agg #[.pointer (some ⟨9, 72, none⟩), .pointer (some a), .int .u64 150])).run Tryz.prog w = .ok (some (72, a, 150)) w := by kernel_rfl
theorem as_isNil27 (a p : Addr) (W : World) (ha : W.cell? a = some (.pointer (some p))) :
    (ReflectliteValue.method (ReflectliteValue.valueError "reflectlite.Value.IsNil" 0) ReflectliteValue.isNil #[.agg #[.pointer (some ⟨9, 72, none⟩), .pointer (some a), .int .u64 150]]).run Tryz.prog W = .ok (.bool false) W := by
  rw [rlm]
  simp only [Sem.run_bind, as_parts27, Result.andThen]
  simp [ReflectliteValue.isNil, loadVar, isAgg, underlying, Tryz.underlying72, ha, Result.andThen]
theorem as_methodElem (h : Value) (w : World) : (Go.method 330 119 (.agg #[h]) "Elem").run Tryz.prog w = .ok (166, .agg #[h]) w := by kernel_rfl
theorem as_methodImplements (h : Value) (w : World) : (Go.method 330 119 (.agg #[h]) "Implements").run Tryz.prog w = .ok (167, .agg #[h]) w := by kernel_rfl
theorem as_methodAssignableTo (h : Value) (w : World) : (Go.method 330 119 (.agg #[h]) "AssignableTo").run Tryz.prog w = .ok (164, .agg #[h]) w := by kernel_rfl
theorem as_elem27 (w : World) : (ReflectliteType.method ReflectliteType.elem #[.agg #[.pointer (some ⟨9, 72, none⟩)]]).run Tryz.prog w = .ok (.iface 119 (.agg #[.pointer (some ⟨9, 70, none⟩)])) w := by kernel_rfl
theorem as_implements25 (w : World) : (ReflectliteType.relation "Implements" ReflectliteType.implements_ #[.agg #[.pointer (some ⟨9, 70, none⟩)], .iface 119 (.agg #[.pointer (some ⟨9, 67, none⟩)])]).run Tryz.prog w = .ok (.bool true) w := by kernel_rfl
theorem as_typeOf25 (v : Value) (w : World) : (ReflectliteType.typeOf #[.iface 70 v]).run Tryz.prog w = .ok (.iface 119 (.agg #[.pointer (some ⟨9, 70, none⟩)])) w := by kernel_rfl
theorem as_assignable25 (w : World) : (ReflectliteType.relation "AssignableTo" ReflectliteType.assignableTo #[.agg #[.pointer (some ⟨9, 70, none⟩)], .iface 119 (.agg #[.pointer (some ⟨9, 70, none⟩)])]).run Tryz.prog w = .ok (.bool true) w := by kernel_rfl
theorem as_valueOf25 (e : Addr) (w : World) : (ReflectliteValue.unpack (.iface 70 (.pointer (some e)))).run Tryz.prog w
    = .ok (.agg #[.pointer (some ⟨9, 70, none⟩), .pointer (some ⟨w.heap.size, 0, none⟩), .int .u64 150]) (w.alloc (.cells #[.pointer (some e)] 70)) := by kernel_rfl
theorem as_elemOf27 (w : World) : (Rtype.elem? 72).run Tryz.prog w = .ok (some 70) w := by kernel_rfl
theorem as_mk25 (p : Addr) (w : World) : (ReflectliteValue.mk 70 p ReflectliteValue.flagAddr).run Tryz.prog w = .ok (.agg #[.pointer (some ⟨9, 70, none⟩), .pointer (some p), .int .u64 406]) w := by kernel_rfl
theorem as_elemV27 (a p : Addr) (W : World) (ha : W.cell? a = some (.pointer (some p))) :
    (ReflectliteValue.method (ReflectliteValue.valueError "reflectlite.Value.Elem" 0) ReflectliteValue.elem #[.agg #[.pointer (some ⟨9, 72, none⟩), .pointer (some a), .int .u64 150]]).run Tryz.prog W
      = .ok (.agg #[.pointer (some ⟨9, 70, none⟩), .pointer (some p), .int .u64 406]) W := by
  rw [rlm]
  simp only [Sem.run_bind, as_parts27, Result.andThen]
  simp [ReflectliteValue.elem, loadVar, isAgg, underlying, Tryz.underlying72, ha, Result.andThen, as_elemOf27, as_mk25]
theorem rls (v x : Value) : ReflectliteValue.set #[v, x] = (do
    let (some (dst, a, fl), some (src, b, _)) := (← ReflectliteValue.parts v, ← ReflectliteValue.parts x)
      | unsupported (.noEntry "extern/(internal/reflectlite.Value).Set.zeroValue")
    if fl / ReflectliteValue.flagAddr % 2 == 0 then unsupported (.noEntry "extern/(internal/reflectlite.Value).Set.unaddressable")
    let val ← loadVar src b
    if ← Rtype.directlyAssignable dst src then storeVar dst a val
    else if ← Rtype.implements dst src then
      if (← Rtype.kind src) == 20 then
        match val with
        | .nilIface => unsupported (.noEntry "extern/reflectlite: a nil value of one interface type handed on as a value of another")
        | _ => storeVar dst a val
      else storeVar dst a (.iface src val)
    else panicString ("reflectlite.Set: value of type " ++ (← Rtype.spelt src) ++ " is not assignable to type " ++ (← Rtype.spelt dst))
    pure (.tuple #[])) := rfl
theorem as_parts25a (a : Addr) (w : World) : (ReflectliteValue.parts (.agg #[.pointer (some ⟨9, 70, none⟩), .pointer (some a), .int .u64 406])).run Tryz.prog w = .ok (some (70, a, 406)) w := by kernel_rfl
theorem as_parts25 (a : Addr) (w : World) : (ReflectliteValue.parts (.agg #[.pointer (some ⟨9, 70, none⟩), .pointer (some a), .int .u64 150])).run Tryz.prog w = .ok (some (70, a, 150)) w := by kernel_rfl
theorem as_direct25 (w : World) : (Rtype.directlyAssignable 70 70).run Tryz.prog w = .ok true w := by kernel_rfl
theorem as_set25 (ta b e : Addr) (old : Value) (W : World) (hb : W.cell? b = some (.pointer (some e))) (ht : W.cell? ta = some old) (hf : W.frozen? ta = false) :
    (ReflectliteValue.set #[.agg #[.pointer (some ⟨9, 70, none⟩), .pointer (some ta), .int .u64 406], .agg #[.pointer (some ⟨9, 70, none⟩), .pointer (some b), .int .u64 150]]).run Tryz.prog W
      = .ok (.tuple #[]) (W.setCell ta (.pointer (some e))) := by
  rw [rls]
  simp only [Sem.run_bind, as_parts25a, as_parts25, Result.andThen]
  simp [ReflectliteValue.flagAddr, loadVar, isAgg, underlying, Tryz.underlying70, hb, Result.andThen, as_direct25, storeVar, Value.cells, storeCells, Addr.add]
  rw [run_store Tryz.prog W ta _ _ (by rfl)]
  simp [ht, hf]
set_option maxHeartbeats 4000000 in
theorem as_hit (e t : Addr) (old : Value) (w : World) (hg : w.cell? ⟨0, 0, none⟩ = some (.iface 119 (.agg #[.pointer (some ⟨9, 67, none⟩)]))) (ht0 : w.cell? t = some old) (hf0 : w.frozen? t = false) :
    Calls Tryz.prog 32 #[.iface 70 (.pointer (some e)), .iface 72 (.pointer (some t))] w fun ev w' => ev = .returned (.bool true) ∧ w' = ((((w.alloc (.cells #[.pointer (some t)] 72)).alloc (.cells #[.pointer (some ⟨9, 72, none⟩), .pointer (some ⟨w.heap.size, 0, none⟩), .int .u64 150] 95)).alloc (.cells #[.pointer (some ⟨9, 72, none⟩), .pointer (some ⟨w.heap.size, 0, none⟩), .int .u64 150] 95)).alloc (.cells #[.pointer (some e)] 70)).setCell t (.pointer (some e)) := by
  have h6 := @run_callFunc_extern Tryz.prog 47 _ (fun args => ReflectliteValue.unpack (args.getD 0 (.tuple #[]))) Tryz.func47 (by kernel_rfl) (by kernel_rfl) (by kernel_rfl) (by kernel_rfl)
  have h7 := @run_callFunc_extern Tryz.prog 48 _ (ReflectliteValue.methodAny (ReflectliteValue.valueError "reflectlite.Value.Type" 0) (fun t _ _ _ => ReflectliteType.toType t)) Tryz.func48 (by kernel_rfl) (by kernel_rfl) (by kernel_rfl) (by kernel_rfl)
  have h8 := @run_callFunc_extern Tryz.prog 49 _ (ReflectliteValue.method (ReflectliteValue.valueError "reflectlite.Value.IsNil" 0) ReflectliteValue.isNil) Tryz.func49 (by kernel_rfl) (by kernel_rfl) (by kernel_rfl) (by kernel_rfl)
  have h27 := @run_callFunc_extern Tryz.prog 155 _ (ReflectliteType.abiMethod fun t => do pure (.int .u8 (← Rtype.kind t))) Tryz.func155 (by kernel_rfl) (by kernel_rfl) (by kernel_rfl) (by kernel_rfl)
  have h37 := @run_callFunc_extern Tryz.prog 166 _ (ReflectliteType.method ReflectliteType.elem) Tryz.func166 (by kernel_rfl) (by kernel_rfl) (by kernel_rfl) (by kernel_rfl)
  have h38 := @run_callFunc_extern Tryz.prog 167 _ (ReflectliteType.relation "Implements" ReflectliteType.implements_) Tryz.func167 (by kernel_rfl) (by kernel_rfl) (by kernel_rfl) (by kernel_rfl)
  have h10 := @run_callFunc_extern Tryz.prog 65 _ ReflectliteType.typeOf Tryz.func65 (by kernel_rfl) (by kernel_rfl) (by kernel_rfl) (by kernel_rfl)
  have h35 := @run_callFunc_extern Tryz.prog 164 _ (ReflectliteType.relation "AssignableTo" ReflectliteType.assignableTo) Tryz.func164 (by kernel_rfl) (by kernel_rfl) (by kernel_rfl) (by kernel_rfl)
  have h11 := @run_callFunc_extern Tryz.prog 66 _ (ReflectliteValue.method (ReflectliteValue.valueError "reflectlite.Value.Elem" 0) ReflectliteValue.elem) Tryz.func66 (by kernel_rfl) (by kernel_rfl) (by kernel_rfl) (by kernel_rfl)
  have h12 := @run_callFunc_extern Tryz.prog 67 _ ReflectliteValue.set Tryz.func67 (by kernel_rfl) (by kernel_rfl) (by kernel_rfl) (by kernel_rfl)
  have tO := as_typeOf25
  have mA := as_methodAssignableTo
  have a25 := as_assignable25
  have v25 := as_valueOf25
  have f6 := as_valueOf27
  have f7 := as_type27
  have mK := as_methodKind
  have mE := as_methodElem
  have mI := as_methodImplements
  have k27 := as_kind27
  have k25 := as_kind25
  have e27 := as_elem27
  have i25 := as_implements25
  have n8 := as_isNil27 ⟨w.heap.size, 0, none⟩ t ((w.alloc (.cells #[.pointer (some t)] 72)).alloc (.cells #[.pointer (some ⟨9, 72, none⟩), .pointer (some ⟨w.heap.size, 0, none⟩), .int .u64 150] 95)) (by simp)
  have hlt : 0 < w.heap.size := by
    rcases Nat.eq_zero_or_pos w.heap.size with h0 | h
    · simp [World.cell?, h0] at hg
    · exact h
  have hg2 : ((w.alloc (.cells #[.pointer (some t)] 72)).alloc (.cells #[.pointer (some ⟨9, 72, none⟩), .pointer (some ⟨w.heap.size, 0, none⟩), .int .u64 150] 95)).cell? ⟨0, 0, none⟩ = some (.iface 119 (.agg #[.pointer (some ⟨9, 67, none⟩)])) := by
    rw [World.cell?_alloc_lt _ _ ⟨0, 0, none⟩ (by simp), World.cell?_alloc_lt _ _ ⟨0, 0, none⟩ hlt]; exact hg
  have htl : t.block < w.heap.size := by
    rcases Nat.lt_or_ge t.block w.heap.size with h | h
    · exact h
    · simp [World.cell?, Array.getElem?_eq_none h] at ht0
  have el := as_elemV27 ⟨w.heap.size, 0, none⟩ t (((w.alloc (.cells #[.pointer (some t)] 72)).alloc (.cells #[.pointer (some ⟨9, 72, none⟩), .pointer (some ⟨w.heap.size, 0, none⟩), .int .u64 150] 95)).alloc (.cells #[.pointer (some ⟨9, 72, none⟩), .pointer (some ⟨w.heap.size, 0, none⟩), .int .u64 150] 95)) (by rw [World.cell?_alloc_lt _ _ ⟨w.heap.size, 0, none⟩ (by simp; omega)]; simp)
  have st := as_set25 t ⟨w.heap.size + 1 + 1 + 1, 0, none⟩ e old ((((w.alloc (.cells #[.pointer (some t)] 72)).alloc (.cells #[.pointer (some ⟨9, 72, none⟩), .pointer (some ⟨w.heap.size, 0, none⟩), .int .u64 150] 95)).alloc (.cells #[.pointer (some ⟨9, 72, none⟩), .pointer (some ⟨w.heap.size, 0, none⟩), .int .u64 150] 95)).alloc (.cells #[.pointer (some e)] 70))
    (by rw [World.cell?_alloc_at _ _ _ _ (by simp)]; rfl)
    (by rw [World.cell?_alloc_lt _ _ t (by simp; omega), World.cell?_alloc_lt _ _ t (by simp; omega), World.cell?_alloc_lt _ _ t (by simp; omega), World.cell?_alloc_lt _ _ t htl]; exact ht0)
    (by rw [World.frozen?_alloc_old _ _ t (by simp; omega), World.frozen?_alloc_old _ _ t (by simp; omega), World.frozen?_alloc_old _ _ t (by simp; omega), World.frozen?_alloc_old _ _ t (Nat.ne_of_lt htl)]; exact hf0)
  go_enter Tryz.func32, Tryz.ntmps32
  go_wp2
  refine wp_loop_rounds 1 ?_
  rw [rounds_succ]
  go_wp2
  go_ret
  exact ⟨rfl, rfl⟩
end
end Go.Proofs.YtcobfilbmfokoaaGreatDoor
namespace Go.Proofs.YtcobfilbmfokoaaGreatDoor
open Go Go.Fen
set_option linter.unusedSimpArgs false
set_option linter.unusedVariables false
attribute [local irreducible] RunX WP ACall AnyP OpA ProtL
set_option maxRecDepth 8000
def ErrT (w0 : World) : Prop := w0.cell? ⟨0, 0, none⟩ = some (.iface 119 (.agg #[.pointer (some ⟨9, 67, none⟩)]))
theorem cAsNil (w0 : World) (S : List Blk) (x : AV) (R : AOut → List Blk → Prop) (h : R (.ret (.bool false)) S) : ACall Tryz.prog w0 32 [.inil, x] S R := by
  unfold ACall
  refine ⟨Go.Proofs.enters_of Tryz.func32 (by kernel_rfl) rfl, fun ι ψ w cargs hRel hal hargs => ?_⟩
  obtain ⟨c1, c2, rfl⟩ : ∃ c1 c2, cargs = #[c1, c2] := by
    obtain ⟨cl⟩ := cargs
    match cl, hal with
    | [a, b], _ => exact ⟨a, b, rfl⟩
  have v1 := hargs 0 _ c1 rfl rfl
  cases v1
  refine (as_nil c2 w).mono ?_
  rintro e w' ⟨rfl, rfl⟩
  exact ⟨ι, ψ, .ret (.bool false), S, Ext.refl _ _, hRel, .bool _, h⟩
theorem cAsHit (w0 : World) (hE : ErrT w0) (S : List Blk) (a : Nat) (cs : List AV) (ty : Option TypeId) (ha : S[a]? = some (.cells [.nilp] ty)) (R : AOut → List Blk → Prop) (h : R (.ret (.bool true)) (S.set a (.cells [.pro cs] ty))) :
    ACall Tryz.prog w0 32 [.ifc 70 (.pro cs), .ifc 72 (.own a 0)] S R := by
  unfold ACall
  refine ⟨Go.Proofs.enters_of Tryz.func32 (by kernel_rfl) rfl, fun ι ψ w cargs hRel hal hargs => ?_⟩
  obtain ⟨c1, c2, rfl⟩ : ∃ c1 c2, cargs = #[c1, c2] := by
    obtain ⟨cl⟩ := cargs
    match cl, hal with
    | [a, b], _ => exact ⟨a, b, rfl⟩
  have v1 := hargs 0 _ c1 rfl rfl
  have v2 := hargs 1 _ c2 rfl rfl
  cases v1 with
  | ifc _ _ p1 q1 =>
  cases v2 with
  | ifc _ _ p2 q2 =>
  cases q2 with
  | own _ _ pl hpl =>
  obtain ⟨ep, rfl⟩ : ∃ ep, p1 = .pointer (some ep) := by
    cases q1 with
    | pro _ b o cv _ _ => exact ⟨_, rfl⟩
  obtain ⟨hn0, ⟨c, T, hc, hcl, hcv⟩, hno, hty⟩ := hRel.blk a _ pl ha hpl
  obtain ⟨_, old, hold, _⟩ := hcv 0 .nilp rfl
  have hlt0 : 0 < w0.heap.size := World.block_lt_of_cell? w0 _ hE
  have hg : w.cell? ⟨0, 0, none⟩ = some (.iface 119 (.agg #[.pointer (some ⟨9, 67, none⟩)])) := hRel.psi _ _ _ (hRel.old 0 0 _ hlt0 hE)
  have ht0 : w.cell? ⟨pl.blk, 0, none⟩ = some old := by simp [World.cell?, hc, hold]
  have hf0 : w.frozen? ⟨pl.blk, 0, none⟩ = false := by simp [World.frozen?, hc]
  refine (as_hit ep ⟨pl.blk, 0, none⟩ old w hg ht0 hf0).mono ?_
  rintro ev w' ⟨rfl, rfl⟩
  have hbl : pl.blk < w.heap.size := World.block_lt_of_cell? w _ ht0
  have hR4 := (((hRel.alloc (.cells #[.pointer (some ⟨pl.blk, 0, none⟩)] 72)).alloc (.cells #[.pointer (some ⟨9, 72, none⟩), .pointer (some ⟨w.heap.size, 0, none⟩), .int .u64 150] 95)).alloc (.cells #[.pointer (some ⟨9, 72, none⟩), .pointer (some ⟨w.heap.size, 0, none⟩), .int .u64 150] 95)).alloc (.cells #[.pointer (some ep)] 70)
  obtain ⟨w2, hr2, hR2⟩ := hR4.storeCells (P := Tryz.prog) ha hpl 0 [.pro cs] [.pointer (some ep)] rfl (by
    intro j x hx
    cases j with
    | zero => cases hx; exact ⟨rfl, _, rfl, q1⟩
    | succ j => simp at hx) (by simp [Value.oneCell']) (by simp)
  have ht4 : ((((w.alloc (.cells #[.pointer (some ⟨pl.blk, 0, none⟩)] 72)).alloc (.cells #[.pointer (some ⟨9, 72, none⟩), .pointer (some ⟨w.heap.size, 0, none⟩), .int .u64 150] 95)).alloc (.cells #[.pointer (some ⟨9, 72, none⟩), .pointer (some ⟨w.heap.size, 0, none⟩), .int .u64 150] 95)).alloc (.cells #[.pointer (some ep)] 70)).cell? ⟨pl.blk, 0, none⟩ = some old := by
    rw [World.cell?_alloc_lt _ _ ⟨pl.blk, 0, none⟩ (by simp; omega), World.cell?_alloc_lt _ _ ⟨pl.blk, 0, none⟩ (by simp; omega), World.cell?_alloc_lt _ _ ⟨pl.blk, 0, none⟩ (by simp; omega), World.cell?_alloc_lt _ _ ⟨pl.blk, 0, none⟩ hbl]
    exact ht0
  have hf4 : ((((w.alloc (.cells #[.pointer (some ⟨pl.blk, 0, none⟩)] 72)).alloc (.cells #[.pointer (some ⟨9, 72, none⟩), .pointer (some ⟨w.heap.size, 0, none⟩), .int .u64 150] 95)).alloc (.cells #[.pointer (some ⟨9, 72, none⟩), .pointer (some ⟨w.heap.size, 0, none⟩), .int .u64 150] 95)).alloc (.cells #[.pointer (some ep)] 70)).frozen? ⟨pl.blk, 0, none⟩ = false := by
    rw [World.frozen?_alloc_old _ _ ⟨pl.blk, 0, none⟩ (by simp; omega), World.frozen?_alloc_old _ _ ⟨pl.blk, 0, none⟩ (by simp; omega), World.frozen?_alloc_old _ _ ⟨pl.blk, 0, none⟩ (by simp; omega), World.frozen?_alloc_old _ _ ⟨pl.blk, 0, none⟩ (Nat.ne_of_lt hbl)]
    exact hf0
  generalize ((((w.alloc (.cells #[.pointer (some ⟨pl.blk, 0, none⟩)] 72)).alloc (.cells #[.pointer (some ⟨9, 72, none⟩), .pointer (some ⟨w.heap.size, 0, none⟩), .int .u64 150] 95)).alloc (.cells #[.pointer (some ⟨9, 72, none⟩), .pointer (some ⟨w.heap.size, 0, none⟩), .int .u64 150] 95)).alloc (.cells #[.pointer (some ep)] 70)) = w4 at hr2 ht4 hf4 hR4 ⊢
  have hst : (Go.storeCells ⟨pl.blk, 0, none⟩ [.pointer (some ep)]).run Tryz.prog w4 = .ok () (w4.setCell ⟨pl.blk, 0, none⟩ (.pointer (some ep))) := by
    simp [Go.storeCells, Addr.add]
    rw [run_store Tryz.prog w4 ⟨pl.blk, 0, none⟩ _ _ (by rfl)]
    simp [ht4, hf4]
  rw [hst] at hr2
  cases hr2
  exact ⟨ι, ψ, .ret (.bool true), _, Ext.refl _ _, by simpa [splice] using hR2, .bool _, h⟩
end Go.Proofs.YtcobfilbmfokoaaGreatDoor
namespace Go.Proofs.YtcobfilbmfokoaaGreatDoor
open Go Go.Fen
set_option linter.unusedSimpArgs false
set_option linter.unusedVariables false
attribute [local irreducible] RunX WP ACall AnyP OpA ProtL
set_option maxRecDepth 8000
theorem unq_len : ∀ (n : Nat) (s acc x r : List UInt8), s.length ≤ n → unqC acc s = some (x, r) → x.length ≤ acc.length + s.length
  | _, [], acc, x, r, _, h => by cases h
  | 0, c :: s, acc, x, r, hn, h => by simp at hn
  | n + 1, c :: s, acc, x, r, hn, h => by
    simp only [List.length_cons] at hn ⊢
    by_cases h1 : c.toNat = 34
    · rw [unqC_cons, if_pos h1] at h
      cases h
      omega
    · by_cases h2 : c.toNat = 92
      · rw [unq_92 acc s c h2] at h
        cases he : escP s with
        | none => rw [he] at h; cases h
        | some w =>
          obtain ⟨v, r2⟩ := w
          rw [he] at h
          obtain ⟨e1, e2⟩ := escP_suf he
          have := unq_len n r2 _ x r (by omega) h
          simp at this; omega
      · rw [unqC_cons, if_neg h1, if_pos h2] at h
        split at h
        · have := unq_len n s _ x r (by omega) h
          simp at this; omega
        · cases h
theorem quo_len {s x r : List UInt8} (h : quoC s = some (x, r)) : x.length ≤ s.length := by
  unfold quoC at h
  have hs : (skipC s).length ≤ s.length := (List.dropWhile_suffix _).length_le
  cases hq : skipC s with
  | nil => rw [hq] at h; cases h
  | cons c r2 =>
    rw [hq] at h hs
    simp only at h
    simp only [List.length_cons] at hs
    split at h
    · have := unq_len _ r2 _ x r (Nat.le_refl _) h
      simp at this; omega
    · cases h
theorem word_len (s : List UInt8) : (wordC s).2.length ≤ s.length := by
  have h1 : (skipC s).length ≤ s.length := (List.dropWhile_suffix _).length_le
  have h2 := (List.dropWhile_suffix (fun b => b != 32) (l := skipC s)).length_le
  unfold wordC; simp only; omega
theorem args_len {k : Int} {f : Fm} {s : List UInt8} {c : Cm} (h : argsC k f s = some c) : c.text.length ≤ s.length := by
  unfold argsC at h
  cases hw : wordsC f s with
  | none => rw [hw] at h; cases h
  | some w =>
    obtain ⟨n, s1⟩ := w
    rw [hw] at h
    have hs1 : s1.length ≤ s.length := by
      unfold wordsC at hw
      split at hw
      · cases hw; exact Nat.le_refl _
      · cases hi : idxC f.words (wordC s).1 with
        | none => rw [hi] at hw; cases hw
        | some i => rw [hi] at hw; cases hw; exact word_len s
    simp only at h
    split at h
    · cases h
    · next c2 s2 hm =>
      have hc2 : c2.text.length ≤ s.length := by
        split at hm
        · simp only [Option.map_eq_some_iff] at hm
          obtain ⟨v, _, hv⟩ := hm
          cases hv; simp
        · split at hm
          · simp only [Option.map_eq_some_iff] at hm
            obtain ⟨v, _, hv⟩ := hm
            cases hv; simp
          · split at hm
            · split at hm
              · cases hm; simp
              · simp only [Option.map_eq_some_iff] at hm
                obtain ⟨v, hq, hv⟩ := hm
                obtain ⟨x, r⟩ := v
                cases hv
                have := quo_len hq
                simp only; omega
            · cases hm; simp
      split at h
      · cases h; exact hc2
      · cases h
theorem read_len {s : List UInt8} {c : Cm} (h : readC s = some c) : c.text.length ≤ s.length := by
  unfold readC at h
  split at h
  · cases h
  · have := args_len h
    have := word_len s
    omega
set_option maxHeartbeats 4000000 in
theorem cParse (w0 : World) (hPU : PU16 w0) (hE : ErrT w0) (S : List Blk) (s : List UInt8) (hs : s.length ≤ 10000000) (R : AOut → List Blk → Prop) (h : R (.ret (.tup [(parseC s).1.av, .int .i64 (parseC s).2])) S) :
    ACall Tryz.prog w0 15 [.str s] S R := by
  have hpa := fun (S' : List Blk) (R : AOut → List Blk → Prop) => cParse0 w0 hPU S' s hs R
  unfold parseC at h
  cases hr : readC s with
  | none =>
    rw [hr] at h
    have hpa := fun (S' : List Blk) (R : AOut → List Blk → Prop) (hh : ∀ c q, R (.ret (.tup [Cm.av c, errV q])) S') => hpa S' R (fun c hc => by rw [hr] at hc; cases hc) (fun _ => hh)
    have hAs := cAsHit w0 hE
    simp only [errV] at hpa
    unfold Cm.av at h hpa
    simp only [zeroC] at h
    clear hr
    refine enter Tryz.func15 rfl (by decide +kernel) (by rw [Tryz.ntmps15]; simp) (by rw [Tryz.ntmps15]; decide) (fun hO => ?_); rw [Tryz.ntmps15]
    repeat' first | apply x_seq | apply x_ops_nil | (apply x_region; simp only [List.toList_toArray]) | (apply x_step0; (· rfl); (· simp only [go_sem, *]; try rfl); (· rfl); simp only [putA]) | (apply x_callA []; (· simp only [go_sem, *]; try rfl); (· rfl); (· simp only [go_sem, *]; try rfl); (· rfl); (iterate 2 (· simp only [go_sem, *]; try rfl)); (first | apply hpa); simp only [afterCall, putA]) | fail
    intro c q
    repeat' first | apply x_seq | apply x_ret | apply x_ops_nil | apply p_ret_it | apply p_end | (apply x_region; simp only [List.toList_toArray]) | (apply x_step0; (· rfl); (· simp only [go_sem, *]; try rfl); (· rfl); simp only [putA]) | (apply x_callA []; (· simp only [go_sem, *]; try rfl); (· rfl); (· simp only [go_sem, *]; try rfl); (· rfl); (iterate 2 (· simp only [go_sem, *]; try rfl)); (first | (apply hAs; (· simp only [go_sem, *]; try rfl))); simp only [afterCall, putA]) | (apply x_condT; (· simp only [go_sem, *]; try rfl)) | fail
    all_goals (apply f_ret; iterate 7 (· simp only [go_sem, *, Tryz.results15]; try rfl))
    all_goals exact h
  | some c =>
    have hpa := fun (S' : List Blk) (R : AOut → List Blk → Prop) (hh : R (.ret (.tup [Cm.av c, .inil])) S') => hpa S' R (fun c' hc => by rw [hr] at hc; cases hc; exact hh) (fun hn => by rw [hr] at hn; cases hn)
    have hck := fun S' => cCheck w0 S' c (by have := read_len hr; omega)
    have hAs := cAsNil w0
    rw [hr] at h
    simp only at h
    cases hc : checkC c with
    | true =>
      simp only [hc, if_true] at h hck
      unfold Cm.av at h hpa hck
      clear hr hc
      refine enter Tryz.func15 rfl (by decide +kernel) (by rw [Tryz.ntmps15]; simp) (by rw [Tryz.ntmps15]; decide) (fun hO => ?_); rw [Tryz.ntmps15]
      repeat' first | apply x_seq | apply x_skip | apply x_ret | apply x_ops_nil | apply p_end | (apply x_region; simp only [List.toList_toArray]) | (apply x_step0; (· rfl); (· simp only [go_sem, *]; try rfl); (· rfl); simp only [putA]) | (apply x_callA []; (· simp only [go_sem, *]; try rfl); (· rfl); (· simp only [go_sem, *]; try rfl); (· rfl); (iterate 2 (· simp only [go_sem, *]; try rfl)); (first | apply hpa | apply hAs | apply hck); simp only [afterCall, putA]) | (apply x_condF; (· simp only [go_sem, *]; try rfl)) | fail
      all_goals (apply f_ret; iterate 7 (· simp only [go_sem, *, Tryz.results15]; try rfl))
      all_goals exact h
    | false =>
      simp only [hc, Bool.false_eq_true, if_false] at h hck
      unfold Cm.av at h hpa hck
      simp only [zeroC] at h
      clear hr hc
      refine enter Tryz.func15 rfl (by decide +kernel) (by rw [Tryz.ntmps15]; simp) (by rw [Tryz.ntmps15]; decide) (fun hO => ?_); rw [Tryz.ntmps15]
      repeat' first | apply x_seq | apply x_skip | apply x_ret | apply x_ops_nil | apply p_ret_it | apply p_end | (apply x_region; simp only [List.toList_toArray]) | (apply x_step0; (· rfl); (· simp only [go_sem, *]; try rfl); (· rfl); simp only [putA]) | (apply x_callA []; (· simp only [go_sem, *]; try rfl); (· rfl); (· simp only [go_sem, *]; try rfl); (· rfl); (iterate 2 (· simp only [go_sem, *]; try rfl)); (first | apply hpa | apply hAs | apply hck); simp only [afterCall, putA]) | (apply x_condT; (· simp only [go_sem, *]; try rfl)) | (apply x_condF; (· simp only [go_sem, *]; try rfl)) | fail
      all_goals (apply f_ret; iterate 7 (· simp only [go_sem, *, Tryz.results15]; try rfl))
      all_goals exact h
end Go.Proofs.YtcobfilbmfokoaaGreatDoor
namespace Go.Proofs.YtcobfilbmfokoaaGreatDoor
open Go Go.Fen
set_option linter.unusedSimpArgs false
set_option linter.unusedVariables false
attribute [local irreducible] RunX WP ACall AnyP OpA ProtL
set_option maxRecDepth 8000
def PrOk (c : Cm) (x : List UInt8) : Prop := printP c = (x, 0) ∧ parseC x = (c, 0) ∧ x.length ≤ 10000000 ∧ c.text.length ≤ 10000000
def PaOk (s : List UInt8) (c : Cm) : Prop := parseC s = (c, 0) ∧ s.length ≤ 10000000
def RfOk (s : List UInt8) (e : Int) : Prop := parseC s = (zeroC, e) ∧ s.length ≤ 10000000
theorem prints (w0 : World) (hT : Tab w0) (hPU : PU16 w0) (hE : ErrT w0) (S : List Blk) (k n m : Int) (t x : List UInt8) (hok : PrOk ⟨k, n, m, t⟩ x) (R : AOut → List Blk → Prop) (h : R (.ret (.bool true)) S) :
    ACall Tryz.prog w0 20 [.agg [.int .i64 k, .int .i64 n, .int .i64 m, .str t], .str x] S R := by
  obtain ⟨h1, h2, h3, h4⟩ := hok
  have hp := fun S' => cPrint w0 hT S' ⟨k, n, m, t⟩ h4
  have hq := fun S' => cParse w0 hPU hE S' x h3
  rw [h1] at hp
  rw [h2] at hq
  unfold Cm.av at hp hq
  clear h1 h2 h3 h4 hT hPU hE
  refine enter Tryz.func20 rfl (by decide +kernel) (by rw [Tryz.ntmps20]; simp) (by rw [Tryz.ntmps20]; decide) (fun hO => ?_); rw [Tryz.ntmps20]
  repeat' first | apply x_seq | apply x_ret | apply x_ops_nil | apply p_end | (apply x_region; simp only [List.toList_toArray]) | (apply x_step0; (· rfl); (· simp only [go_sem, *]; try rfl); (· rfl); simp only [putA]) | (apply x_callA []; (· simp only [go_sem, *]; try rfl); (· rfl); (· simp only [go_sem, *]; try rfl); (· rfl); (iterate 2 (· simp only [go_sem, *]; try rfl)); (first | apply hp | apply hq); simp only [afterCall, putA]) | (apply x_step; (iterate 2 (· simp only [go_sem, *]; try rfl)); (· rfl); simp only [putA]) | fail
  (apply f_ret; iterate 7 (· simp only [go_sem, *, Tryz.results20]; try rfl))
  exact h
theorem parses (w0 : World) (hT : Tab w0) (hPU : PU16 w0) (hE : ErrT w0) (S : List Blk) (k n m : Int) (t x : List UInt8) (hok : PaOk x ⟨k, n, m, t⟩) (R : AOut → List Blk → Prop) (h : R (.ret (.bool true)) S) :
    ACall Tryz.prog w0 14 [.str x, .agg [.int .i64 k, .int .i64 n, .int .i64 m, .str t]] S R := by
  obtain ⟨h2, h3⟩ := hok
  have hq := fun S' => cParse w0 hPU hE S' x h3
  rw [h2] at hq
  unfold Cm.av at hq
  clear h2 h3 hT hPU hE
  refine enter Tryz.func14 rfl (by decide +kernel) (by rw [Tryz.ntmps14]; simp) (by rw [Tryz.ntmps14]; decide) (fun hO => ?_); rw [Tryz.ntmps14]
  repeat' first | apply x_seq | apply x_ret | apply x_ops_nil | apply p_end | (apply x_region; simp only [List.toList_toArray]) | (apply x_step0; (· rfl); (· simp only [go_sem, *]; try rfl); (· rfl); simp only [putA]) | (apply x_callA []; (· simp only [go_sem, *]; try rfl); (· rfl); (· simp only [go_sem, *]; try rfl); (· rfl); (iterate 2 (· simp only [go_sem, *]; try rfl)); (first | apply hq); simp only [afterCall, putA]) | (apply x_step; (iterate 2 (· simp only [go_sem, *]; try rfl)); (· rfl); simp only [putA]) | fail
  (apply f_ret; iterate 7 (· simp only [go_sem, *, Tryz.results14]; try rfl))
  exact h
theorem refused (w0 : World) (hT : Tab w0) (hPU : PU16 w0) (hE : ErrT w0) (S : List Blk) (x : List UInt8) (e : Int) (hok : RfOk x e) (R : AOut → List Blk → Prop) (h : R (.ret (.bool true)) S) :
    ACall Tryz.prog w0 19 [.str x, .int .i64 e] S R := by
  obtain ⟨h2, h3⟩ := hok
  have hq := fun S' => cParse w0 hPU hE S' x h3
  rw [h2] at hq
  unfold Cm.av at hq
  simp only [zeroC] at hq
  clear h2 h3 hT hPU hE
  refine enter Tryz.func19 rfl (by decide +kernel) (by rw [Tryz.ntmps19]; simp) (by rw [Tryz.ntmps19]; decide) (fun hO => ?_); rw [Tryz.ntmps19]
  repeat' first | apply x_seq | apply x_ret | apply x_ops_nil | apply p_end | (apply x_region; simp only [List.toList_toArray]) | (apply x_step0; (· rfl); (· simp only [go_sem, *]; try rfl); (· rfl); simp only [putA]) | (apply x_callA []; (· simp only [go_sem, *]; try rfl); (· rfl); (· simp only [go_sem, *]; try rfl); (· rfl); (iterate 2 (· simp only [go_sem, *]; try rfl)); (first | apply hq); simp only [afterCall, putA]) | (apply x_step; (iterate 2 (· simp only [go_sem, *]; try rfl)); (· rfl); simp only [putA]) | fail
  (apply f_ret; iterate 7 (· simp only [go_sem, *, Tryz.results19]; try rfl))
  exact h
theorem wP0 : PrOk ⟨1, 1, 0, []⟩ [115, 112, 108, 105, 116, 32, 100, 111, 119, 110] := ⟨by decide +kernel, by decide +kernel, by decide, by decide⟩
theorem wP1 : PrOk ⟨6, 2, 5, []⟩ [114, 101, 115, 105, 122, 101, 32, 114, 105, 103, 104, 116, 32, 53] := ⟨by decide +kernel, by decide +kernel, by decide, by decide⟩
theorem wP2 : PrOk ⟨10, 0, 0, [97, 13]⟩ [115, 101, 110, 100, 32, 34, 97, 92, 120, 48, 100, 34] := ⟨by decide +kernel, by decide +kernel, by decide, by decide⟩
theorem wA0 : PaOk [115, 101, 108, 101, 99, 116, 32, 32, 108, 101, 102, 116, 32] ⟨3, 3, 0, []⟩ := ⟨by decide +kernel, by decide⟩
theorem wA1 : PaOk [119, 105, 110, 100, 111, 119, 32, 48, 55] ⟨13, 7, 0, []⟩ := ⟨by decide +kernel, by decide⟩
theorem wA2 : PaOk [110, 101, 119, 45, 119, 105, 110, 100, 111, 119] ⟨12, 0, 0, []⟩ := ⟨by decide +kernel, by decide⟩
theorem wR0 : RfOk [119, 105, 110, 100, 111, 119, 32, 49, 48] 500 := ⟨by decide +kernel, by decide⟩
theorem wR1 : RfOk [114, 101, 115, 105, 122, 101, 32, 117, 112, 32, 48] 500 := ⟨by decide +kernel, by decide⟩
theorem wR2 : RfOk [115, 99, 114, 111, 108, 108, 32, 98, 97, 99, 107, 32, 49, 48, 49] 500 := ⟨by decide +kernel, by decide⟩
theorem wS0 : RfOk [] 6 := ⟨by decide +kernel, by decide⟩
theorem wS1 : RfOk [75, 105, 108, 108] 6 := ⟨by decide +kernel, by decide⟩
theorem wS2 : RfOk [107, 105, 108, 108, 32, 49] 6 := ⟨by decide +kernel, by decide⟩
theorem wS3 : RfOk [115, 101, 110, 100, 32, 97] 6 := ⟨by decide +kernel, by decide⟩
theorem wS4 : RfOk [115, 101, 110, 100, 32, 34, 97] 6 := ⟨by decide +kernel, by decide⟩
theorem wS5 : RfOk [119, 105, 110, 100, 111, 119, 32, 48, 48, 48, 49] 6 := ⟨by decide +kernel, by decide⟩
theorem wX : printP ⟨11, 0, 0, [255]⟩ = ([], 500) := by decide +kernel
theorem wY : printP ⟨7, 1, 0, []⟩ = ([], 500) := by decide +kernel
set_option maxHeartbeats 16000000 in
theorem works (w0 : World) (hT : Tab w0) (hPU : PU16 w0) (hE : ErrT w0) (S : List Blk) (R : AOut → List Blk → Prop) (h : R (.ret (.bool true)) S) : ACall Tryz.prog w0 13 [] S R := by
  have hpr := Lib.hid (prints w0 hT hPU hE)
  have hpa := Lib.hid (parses w0 hT hPU hE)
  have hrf := Lib.hid (refused w0 hT hPU hE)
  have hx := fun S' => cPrint w0 hT S' ⟨11, 0, 0, [255]⟩ (by decide)
  have hy := fun S' => cPrint w0 hT S' ⟨7, 1, 0, []⟩ (by decide)
  rw [wX] at hx
  rw [wY] at hy
  unfold Cm.av at hx hy
  replace hx := Lib.hid hx
  replace hy := Lib.hid hy
  have p0 := wP0
  have a0 := wA0
  have r0 := wR0
  have p1 := wP1
  have a1 := wA1
  have r1 := wR1
  have p2 := wP2
  have a2 := wA2
  have r2 := wR2
  have z0 := wS0
  have z1 := wS1
  have z2 := wS2
  have z3 := wS3
  have z4 := wS4
  have z5 := wS5
  clear hT hPU hE
  refine enter Tryz.func13 rfl (by decide +kernel) (by rw [Tryz.ntmps13]; simp) (by rw [Tryz.ntmps13]; decide) (fun hO => ?_); rw [Tryz.ntmps13]
  repeat' first | apply x_seq | apply x_skip | apply x_block | apply x_exit | apply x_ret | apply x_ops_nil | apply p_blk | apply p_exit_it | apply p_exit_hit | apply p_end | (apply x_region; simp only [List.toList_toArray]) | (apply x_step0; (· rfl); (· simp only [go_sem, *]; try rfl); (· rfl); simp only [putA]) | (apply x_callA []; (· simp only [go_sem, *]; try rfl); (· rfl); (· simp only [go_sem, *]; try rfl); (· rfl); (iterate 2 (· simp only [go_sem, *]; try rfl)); (first | (apply hpr.out; (· simp only [go_sem, *]; try rfl)) | (apply hpa.out; (· simp only [go_sem, *]; try rfl)) | (apply hrf.out; (· simp only [go_sem, *]; try rfl)) | apply hx.out | apply hy.out); simp only [afterCall, putA]) | (apply x_step; (iterate 2 (· simp only [go_sem, *]; try rfl)); (· rfl); simp only [putA]) | (apply x_condT; (· simp only [go_sem, *]; try rfl)) | (apply x_condF; (· simp only [go_sem, *]; try rfl)) | apply x_loop | apply x_lp | fail
  (apply f_ret; iterate 7 (· simp only [go_sem, *, Tryz.results13]; try rfl))
  exact h
end Go.Proofs.YtcobfilbmfokoaaGreatDoor
namespace Go.Proofs.YtcobfilbmfokoaaGreatDoor
open Go Go.Fen
set_option linter.unusedSimpArgs false
set_option linter.unusedVariables false
attribute [local irreducible] RunX WP ACall AnyP OpA ProtL
set_option maxRecDepth 8000
end Go.Proofs.YtcobfilbmfokoaaGreatDoor
namespace Go.Proofs.YtcobfilbmfokoaaGreatDoor
open Go Go.Fen
set_option linter.unusedSimpArgs false
set_option linter.unusedVariables false
attribute [local irreducible] RunX WP ACall AnyP OpA ProtL
set_option maxRecDepth 8000
theorem check_cases {k n m : Int} {t : List UInt8} (h : checkC ⟨k, n, m, t⟩ = true) :
    ((k = 2 ∨ k = 4 ∨ k = 5 ∨ k = 7 ∨ k = 8 ∨ k = 14 ∨ k = 15 ∨ k = 16) ∧ n = 0 ∧ m = 0 ∧ t = []) ∨ (k = 1 ∧ (n = 0 ∨ n = 1) ∧ m = 0 ∧ t = []) ∨ (k = 3 ∧ (n = 0 ∨ n = 1 ∨ n = 2 ∨ n = 3) ∧ m = 0 ∧ t = []) ∨
    (k = 6 ∧ (n = 0 ∨ n = 1 ∨ n = 2 ∨ n = 3) ∧ (0 ≤ m ∧ m < 101) ∧ t = []) ∨ (k = 9 ∧ (n = 0 ∨ n = 1) ∧ (0 ≤ m ∧ m < 101) ∧ t = []) ∨ ((k = 10 ∨ k = 11 ∨ k = 12) ∧ n = 0 ∧ m = 0) ∨ (k = 13 ∧ (0 ≤ n ∧ n < 101) ∧ m = 0 ∧ t = []) := by
  have hk : (k = 1 ∨ k = 2 ∨ k = 3 ∨ k = 4 ∨ k = 5 ∨ k = 6 ∨ k = 7 ∨ k = 8 ∨ k = 9 ∨ k = 10 ∨ k = 11 ∨ k = 12 ∨ k = 13 ∨ k = 14 ∨ k = 15 ∨ k = 16) ∨ (¬ (1 ≤ k ∧ k ≤ 16)) := by omega
  rcases hk with hk | hk
  · rcases hk with rfl | rfl | rfl | rfl | rfl | rfl | rfl | rfl | rfl | rfl | rfl | rfl | rfl | rfl | rfl | rfl
    all_goals
      simp [checkC, fmOf, formsL, waysL, List.lookup, validB] at h
      simp_all
      try omega
  · exfalso
    have k1 : (k == 1) = false := by rw [beq_eq_false_iff_ne]; omega
    have k2 : (k == 2) = false := by rw [beq_eq_false_iff_ne]; omega
    have k3 : (k == 3) = false := by rw [beq_eq_false_iff_ne]; omega
    have k4 : (k == 4) = false := by rw [beq_eq_false_iff_ne]; omega
    have k5 : (k == 5) = false := by rw [beq_eq_false_iff_ne]; omega
    have k6 : (k == 6) = false := by rw [beq_eq_false_iff_ne]; omega
    have k7 : (k == 7) = false := by rw [beq_eq_false_iff_ne]; omega
    have k8 : (k == 8) = false := by rw [beq_eq_false_iff_ne]; omega
    have k9 : (k == 9) = false := by rw [beq_eq_false_iff_ne]; omega
    have k10 : (k == 10) = false := by rw [beq_eq_false_iff_ne]; omega
    have k11 : (k == 11) = false := by rw [beq_eq_false_iff_ne]; omega
    have k12 : (k == 12) = false := by rw [beq_eq_false_iff_ne]; omega
    have k13 : (k == 13) = false := by rw [beq_eq_false_iff_ne]; omega
    have k14 : (k == 14) = false := by rw [beq_eq_false_iff_ne]; omega
    have k15 : (k == 15) = false := by rw [beq_eq_false_iff_ne]; omega
    have k16 : (k == 16) = false := by rw [beq_eq_false_iff_ne]; omega
    simp only [checkC, fmOf, formsL, List.lookup, k1, k2, k3, k4, k5, k6, k7, k8, k9, k10, k11, k12, k13, k14, k15, k16] at h
    cases h
theorem rCheckC (w0 : World) (S : List Blk) (c : Cm) (hs : c.text.length ≤ 10000000) (R : AOut → List Blk → Prop) (h : R (.ret (.int .i64 (if checkC c then 0 else 500))) S) : ACall Tryz.prog w0 12 [c.av] S R := by
  have hv := fun S' => rValid w0 S' c hs
  unfold Cm.av at hv ⊢
  cases hc : checkC c with
  | true =>
    rw [hc] at hv
    rw [hc, if_pos rfl] at h
    clear hc hs
    refine enter Tryz.func12 rfl (by decide +kernel) (by rw [Tryz.ntmps12]; simp) (by rw [Tryz.ntmps12]; decide) (fun hO => ?_); rw [Tryz.ntmps12]
    repeat' first | apply x_seq | apply x_skip | apply x_ret | apply x_ops_nil | apply p_end | (apply x_region; simp only [List.toList_toArray]) | (apply x_step0; (· rfl); (· simp only [go_sem, *]; try rfl); (· rfl); simp only [putA]) | (apply x_callA []; (· simp only [go_sem, *]; try rfl); (· rfl); (· simp only [go_sem, *]; try rfl); (· rfl); (iterate 2 (· simp only [go_sem, *]; try rfl)); (first | apply hv); simp only [afterCall, putA]) | (apply x_condF; (· simp only [go_sem, *]; try rfl)) | fail
    (apply f_ret; iterate 7 (· simp only [go_sem, *, Tryz.results12]; try rfl))
    exact h
  | false =>
    rw [hc] at hv
    rw [hc, if_neg (by decide)] at h
    clear hc hs
    refine enter Tryz.func12 rfl (by decide +kernel) (by rw [Tryz.ntmps12]; simp) (by rw [Tryz.ntmps12]; decide) (fun hO => ?_); rw [Tryz.ntmps12]
    repeat' first | apply x_seq | apply x_ret | apply x_ops_nil | apply p_ret_it | apply p_end | (apply x_region; simp only [List.toList_toArray]) | (apply x_step0; (· rfl); (· simp only [go_sem, *]; try rfl); (· rfl); simp only [putA]) | (apply x_callA []; (· simp only [go_sem, *]; try rfl); (· rfl); (· simp only [go_sem, *]; try rfl); (· rfl); (iterate 2 (· simp only [go_sem, *]; try rfl)); (first | apply hv); simp only [afterCall, putA]) | (apply x_condT; (· simp only [go_sem, *]; try rfl)) | fail
    (apply f_ret; iterate 7 (· simp only [go_sem, *, Tryz.results12]; try rfl))
    exact h
theorem rKeys (w0 : World) (S : List Blk) (R : AOut → List Blk → Prop) (h : R (.ret (.agg [.str [], .str [115, 112, 108, 105, 116], .str [107, 105, 108, 108], .str [115, 101, 108, 101, 99, 116], .str [110, 101, 120, 116, 45, 112, 97, 110, 101], .str [115, 119, 97, 112], .str [114, 101, 115, 105, 122, 101], .str [122, 111, 111, 109], .str [101, 118, 101, 110], .str [115, 99, 114, 111, 108, 108], .str [115, 101, 110, 100], .str [114, 101, 110, 97, 109, 101], .str [110, 101, 119, 45, 119, 105, 110, 100, 111, 119], .str [119, 105, 110, 100, 111, 119], .str [110, 101, 120, 116, 45, 119, 105, 110, 100, 111, 119], .str [112, 114, 101, 118, 105, 111, 117, 115, 45, 119, 105, 110, 100, 111, 119], .str [100, 101, 116, 97, 99, 104]])) S) : ACall Tryz.prog w0 26 [] S R := by
  refine enter Tryz.func26 rfl (by decide +kernel) (by rw [Tryz.ntmps26]; simp) (by rw [Tryz.ntmps26]; decide) (fun hO => ?_); rw [Tryz.ntmps26]
  repeat' first | apply x_seq | apply x_ret | apply x_ops_nil | apply p_end | (apply x_region; simp only [List.toList_toArray]) | (apply x_step0; (· rfl); (· simp only [go_sem, *]; try rfl); (· rfl); simp only [putA]) | fail
  (apply f_ret; iterate 7 (· simp only [go_sem, *, Tryz.results26]; try rfl))
  exact h
theorem rWords1 (w0 : World) (S : List Blk) (R : AOut → List Blk → Prop) (h : R (.ret (.sval false [.str [114, 105, 103, 104, 116], .str [100, 111, 119, 110]])) S) : ACall Tryz.prog w0 27 [.int .i64 1] S R := by
  refine enter Tryz.func27 rfl (by decide +kernel) (by rw [Tryz.ntmps27]; simp) (by rw [Tryz.ntmps27]; decide) (fun hO => ?_); rw [Tryz.ntmps27]
  repeat' first | apply x_seq | apply x_block | apply x_ret | apply x_ops_nil | apply p_ret_it | apply p_ret_blk | apply p_end | (apply x_region; simp only [List.toList_toArray]) | (apply x_step0; (· rfl); (· simp only [go_sem, *]; try rfl); (· rfl); simp only [putA]) | (apply x_condT; (· simp only [go_sem, *]; try rfl)) | fail
  (apply f_ret; iterate 7 (· simp only [go_sem, *, Tryz.results27]; try rfl))
  exact h
theorem rWords3 (w0 : World) (S : List Blk) (R : AOut → List Blk → Prop) (h : R (.ret (.sval false [.str [117, 112], .str [100, 111, 119, 110], .str [114, 105, 103, 104, 116], .str [108, 101, 102, 116]])) S) : ACall Tryz.prog w0 27 [.int .i64 3] S R := by
  refine enter Tryz.func27 rfl (by decide +kernel) (by rw [Tryz.ntmps27]; simp) (by rw [Tryz.ntmps27]; decide) (fun hO => ?_); rw [Tryz.ntmps27]
  repeat' first | apply x_seq | apply x_skip | apply x_block | apply x_ret | apply x_ops_nil | apply p_ret_it | apply p_ret_blk | apply p_end | (apply x_region; simp only [List.toList_toArray]) | (apply x_step0; (· rfl); (· simp only [go_sem, *]; try rfl); (· rfl); simp only [putA]) | (apply x_condT; (· simp only [go_sem, *]; try rfl)) | (apply x_condF; (· simp only [go_sem, *]; try rfl)) | fail
  (apply f_ret; iterate 7 (· simp only [go_sem, *, Tryz.results27]; try rfl))
  exact h
theorem rWords6 (w0 : World) (S : List Blk) (R : AOut → List Blk → Prop) (h : R (.ret (.sval false [.str [117, 112], .str [100, 111, 119, 110], .str [114, 105, 103, 104, 116], .str [108, 101, 102, 116]])) S) : ACall Tryz.prog w0 27 [.int .i64 6] S R := by
  refine enter Tryz.func27 rfl (by decide +kernel) (by rw [Tryz.ntmps27]; simp) (by rw [Tryz.ntmps27]; decide) (fun hO => ?_); rw [Tryz.ntmps27]
  repeat' first | apply x_seq | apply x_block | apply x_ret | apply x_ops_nil | apply p_ret_it | apply p_ret_blk | apply p_end | (apply x_region; simp only [List.toList_toArray]) | (apply x_step0; (· rfl); (· simp only [go_sem, *]; try rfl); (· rfl); simp only [putA]) | (apply x_condT; (· simp only [go_sem, *]; try rfl)) | (apply x_condF; (· simp only [go_sem, *]; try rfl)) | fail
  (apply f_ret; iterate 7 (· simp only [go_sem, *, Tryz.results27]; try rfl))
  exact h
theorem rWords9 (w0 : World) (S : List Blk) (R : AOut → List Blk → Prop) (h : R (.ret (.sval false [.str [98, 97, 99, 107], .str [102, 111, 114, 119, 97, 114, 100]])) S) : ACall Tryz.prog w0 27 [.int .i64 9] S R := by
  refine enter Tryz.func27 rfl (by decide +kernel) (by rw [Tryz.ntmps27]; simp) (by rw [Tryz.ntmps27]; decide) (fun hO => ?_); rw [Tryz.ntmps27]
  repeat' first | apply x_seq | apply x_block | apply x_ret | apply x_ops_nil | apply p_ret_it | apply p_ret_blk | apply p_end | (apply x_region; simp only [List.toList_toArray]) | (apply x_step0; (· rfl); (· simp only [go_sem, *]; try rfl); (· rfl); simp only [putA]) | (apply x_condT; (· simp only [go_sem, *]; try rfl)) | (apply x_condF; (· simp only [go_sem, *]; try rfl)) | fail
  (apply f_ret; iterate 7 (· simp only [go_sem, *, Tryz.results27]; try rfl))
  exact h
theorem rWords0 (w0 : World) (S : List Blk) (k : Int) (h1 : (k == 1) = false) (h3 : (k == 3) = false) (h6 : (k == 6) = false) (h9 : (k == 9) = false) (R : AOut → List Blk → Prop) (h : R (.ret (.sval false [])) S) : ACall Tryz.prog w0 27 [.int .i64 k] S R := by
  refine enter Tryz.func27 rfl (by decide +kernel) (by rw [Tryz.ntmps27]; simp) (by rw [Tryz.ntmps27]; decide) (fun hO => ?_); rw [Tryz.ntmps27]
  repeat' first | apply x_seq | apply x_skip | apply x_block | apply x_ret | apply x_ops_nil | apply p_blk | apply p_end | (apply x_region; simp only [List.toList_toArray]) | (apply x_step0; (· rfl); (· simp only [go_sem, *]; try rfl); (· rfl); simp only [putA]) | (apply x_condF; (· simp only [go_sem, *]; try rfl)) | fail
  (apply f_ret; iterate 7 (· simp only [go_sem, *, Tryz.results27]; try rfl))
  exact h
set_option maxHeartbeats 8000000 in
theorem rPrint (w0 : World) (S : List Blk) (c : Cm) (hs : c.text.length ≤ 10000000) (R : AOut → List Blk → Prop) (h : R (.ret (.tup [.str (printP c).1, .int .i64 (printP c).2])) S) : ACall Tryz.prog w0 10 [c.av] S R := by
  have hv := fun S' => rValid w0 S' c hs
  unfold Cm.av at hv ⊢
  unfold printP at h
  cases hc : checkC c with
  | false =>
    rw [hc] at hv
    rw [hc, if_neg (by decide)] at h
    clear hc hs
    refine enter Tryz.func10 rfl (by decide +kernel) (by rw [Tryz.ntmps10]; simp) (by rw [Tryz.ntmps10]; decide) (fun hO => ?_); rw [Tryz.ntmps10]
    repeat' first | apply x_seq | apply x_ret | apply x_ops_nil | apply p_ret_it | apply p_end | (apply x_region; simp only [List.toList_toArray]) | (apply x_step0; (· rfl); (· simp only [go_sem, *]; try rfl); (· rfl); simp only [putA]) | (apply x_callA []; (· simp only [go_sem, *]; try rfl); (· rfl); (· simp only [go_sem, *]; try rfl); (· rfl); (iterate 2 (· simp only [go_sem, *]; try rfl)); (first | apply hv); simp only [afterCall, putA]) | (apply x_condT; (· simp only [go_sem, *]; try rfl)) | fail
    (apply f_ret; iterate 7 (· simp only [go_sem, *, Tryz.results10]; try rfl))
    exact h
  | true =>
    rw [hc] at hv
    rw [hc, if_pos rfl] at h
    obtain ⟨k, n, m, t⟩ := c
    have hq := fun S' => rQuoted w0 S' t (by simp only at hs; omega)
    have hql := quoteC_len t
    simp only at hv hs ⊢
    have H := Lib.hid h
    have hcc := check_cases hc
    clear h hc
    have hk := rKeys w0
    rcases hcc with ⟨hkk, rfl, rfl, rfl⟩ | ⟨rfl, hn, rfl, rfl⟩ | ⟨rfl, hn, rfl, rfl⟩ | ⟨rfl, hn, ⟨hm1, hm2⟩, rfl⟩ | ⟨rfl, hn, ⟨hm1, hm2⟩, rfl⟩ | ⟨hkk, rfl, rfl⟩ | ⟨rfl, ⟨hn1, hn2⟩, rfl, rfl⟩
    · have hw := rWords0 w0
      rcases hkk with rfl | rfl | rfl | rfl | rfl | rfl | rfl | rfl
      all_goals
        clear hs hql hq
        refine enter Tryz.func10 rfl (by decide +kernel) (by rw [Tryz.ntmps10]; simp) (by rw [Tryz.ntmps10]; decide) (fun hO => ?_); rw [Tryz.ntmps10]
        repeat' first | apply x_seq | apply x_skip | apply x_block | apply x_ret | apply x_ops_nil | apply p_blk | apply p_end | (apply x_region; simp only [List.toList_toArray]) | (apply x_step0; (· rfl); (· simp only [go_sem, *]; try rfl); (· rfl); simp only [putA]) | (apply x_callA []; (· simp only [go_sem, *]; try rfl); (· rfl); (· simp only [go_sem, *]; try rfl); (· rfl); (iterate 2 (· simp only [go_sem, *]; try rfl)); (first | apply hv | apply hk | (apply hw; (iterate 4 (· simp only [go_sem, *]; try rfl)))); simp only [afterCall, putA]) | (apply x_condF; (· simp only [go_sem, *]; try rfl)) | (apply d_draw; (· exact mixed); (· simp only [List.size_toArray, List.length_cons, List.length_nil, Nat.reduceAdd]; try rfl)) | (apply d_done; (· decide +kernel)) | (apply a_0; (repeat (apply a_s; (· decide +kernel))); apply a_take; (· decide +kernel); (· first | exact qds_FPost | exact qds_RPost | exact qds_YB | assumption); (· rfl); (iterate 3 (· simp only [go_sem, *]; try rfl)); (· rfl); (· simp only [go_sem, *]; try rfl); simp only [putA]) | (apply a_0; (repeat (apply a_o; (· decide +kernel))); apply a_one; (· decide +kernel)) | apply pr_same | (apply o_call []; (iterate 2 (· simp only [go_sem, *]; try rfl)); (· rfl); (· simp only [go_sem, *]; try rfl); (· rfl); (iterate 2 (· simp only [go_sem, *]; try rfl)); (first | apply hv | apply hk | (apply hw; (iterate 4 (· simp only [go_sem, *]; try rfl)))); simp only [afterOp, putA]) | fail
        (apply f_ret; iterate 7 (· simp only [go_sem, *, Tryz.results10]; try rfl))
        exact H.out
    · have hw := rWords1 w0
      rcases hn with rfl | rfl
      all_goals
        clear hs hql hq
        refine enter Tryz.func10 rfl (by decide +kernel) (by rw [Tryz.ntmps10]; simp) (by rw [Tryz.ntmps10]; decide) (fun hO => ?_); rw [Tryz.ntmps10]
        repeat' first | apply x_seq | apply x_skip | apply x_block | apply x_ret | apply x_ops_nil | apply p_blk | apply p_end | (apply x_region; simp only [List.toList_toArray]) | (apply x_step0; (· rfl); (· simp only [go_sem, *]; try rfl); (· rfl); simp only [putA]) | (apply x_callA []; (· simp only [go_sem, *]; try rfl); (· rfl); (· simp only [go_sem, *]; try rfl); (· rfl); (iterate 2 (· simp only [go_sem, *]; try rfl)); (first | apply hv | apply hk | apply hw); simp only [afterCall, putA]) | (apply x_condT; (· simp only [go_sem, *]; try rfl)) | (apply x_condF; (· simp only [go_sem, *]; try rfl)) | (apply d_draw; (· exact mixed); (· simp only [List.size_toArray, List.length_cons, List.length_nil, Nat.reduceAdd]; try rfl)) | (apply d_done; (· decide +kernel)) | (apply a_0; (repeat (apply a_s; (· decide +kernel))); apply a_take; (· decide +kernel); (· first | exact qds_FPost | exact qds_RPost | exact qds_YB | assumption); (· rfl); (iterate 3 (· simp only [go_sem, *]; try rfl)); (· rfl); (· simp only [go_sem, *]; try rfl); simp only [putA]) | (apply a_0; (repeat (apply a_o; (· decide +kernel))); apply a_one; (· decide +kernel)) | apply pr_same | (apply o_call []; (iterate 2 (· simp only [go_sem, *]; try rfl)); (· rfl); (· simp only [go_sem, *]; try rfl); (· rfl); (iterate 2 (· simp only [go_sem, *]; try rfl)); (first | apply hv | apply hk | apply hw); simp only [afterOp, putA]) | fail
        (apply f_ret; iterate 7 (· simp only [go_sem, *, Tryz.results10]; try rfl))
        exact H.out
    · have hw := rWords3 w0
      rcases hn with rfl | rfl | rfl | rfl
      all_goals
        clear hs hql hq
        refine enter Tryz.func10 rfl (by decide +kernel) (by rw [Tryz.ntmps10]; simp) (by rw [Tryz.ntmps10]; decide) (fun hO => ?_); rw [Tryz.ntmps10]
        repeat' first | apply x_seq | apply x_skip | apply x_block | apply x_ret | apply x_ops_nil | apply p_blk | apply p_end | (apply x_region; simp only [List.toList_toArray]) | (apply x_step0; (· rfl); (· simp only [go_sem, *]; try rfl); (· rfl); simp only [putA]) | (apply x_callA []; (· simp only [go_sem, *]; try rfl); (· rfl); (· simp only [go_sem, *]; try rfl); (· rfl); (iterate 2 (· simp only [go_sem, *]; try rfl)); (first | apply hv | apply hk | apply hw); simp only [afterCall, putA]) | (apply x_condT; (· simp only [go_sem, *]; try rfl)) | (apply x_condF; (· simp only [go_sem, *]; try rfl)) | (apply d_draw; (· exact mixed); (· simp only [List.size_toArray, List.length_cons, List.length_nil, Nat.reduceAdd]; try rfl)) | (apply d_done; (· decide +kernel)) | (apply a_0; (repeat (apply a_s; (· decide +kernel))); apply a_take; (· decide +kernel); (· first | exact qds_FPost | exact qds_RPost | exact qds_YB | assumption); (· rfl); (iterate 3 (· simp only [go_sem, *]; try rfl)); (· rfl); (· simp only [go_sem, *]; try rfl); simp only [putA]) | (apply a_0; (repeat (apply a_o; (· decide +kernel))); apply a_one; (· decide +kernel)) | apply pr_same | (apply o_call []; (iterate 2 (· simp only [go_sem, *]; try rfl)); (· rfl); (· simp only [go_sem, *]; try rfl); (· rfl); (iterate 2 (· simp only [go_sem, *]; try rfl)); (first | apply hv | apply hk | apply hw); simp only [afterOp, putA]) | fail
        (apply f_ret; iterate 7 (· simp only [go_sem, *, Tryz.results10]; try rfl))
        exact H.out
    · have hw := rWords6 w0
      obtain ⟨a, rfl⟩ : ∃ a : Nat, m = a := ⟨m.toNat, by omega⟩
      have hd := fun S' => rDig w0 S' a (by omega)
      have hil : (Lib.itoa (a : Int)).length ≤ 3 := by rw [itoa_dig a (by omega)]; unfold digL; split <;> (try split) <;> simp
      have hadd : ∀ m : Nat, m ≤ 50 → m + (Lib.itoa (a : Int)).length ≤ 9223372036854775807 := fun m hm => by omega
      clear hs hql hq hm1 hm2 hil
      rcases hn with rfl | rfl | rfl | rfl
      all_goals
        refine enter Tryz.func10 rfl (by decide +kernel) (by rw [Tryz.ntmps10]; simp) (by rw [Tryz.ntmps10]; decide) (fun hO => ?_); rw [Tryz.ntmps10]
        repeat' first | apply x_seq | apply x_skip | apply x_block | apply x_ret | apply x_ops_nil | apply p_ret_it | apply p_ret_blk | apply p_end | (apply x_region; simp only [List.toList_toArray]) | (apply x_step0; (· rfl); (· simp only [go_sem, *]; try rfl); (· rfl); simp only [putA]) | (apply x_callA []; (· simp only [go_sem, *]; try rfl); (· rfl); (· simp only [go_sem, *]; try rfl); (· rfl); (iterate 2 (· simp only [go_sem, *]; try rfl)); (first | apply hv | apply hk | apply hw | apply hd); simp only [afterCall, putA]) | (apply x_condT; (· simp only [go_sem, *]; try rfl)) | (apply x_condF; (· simp only [go_sem, *]; try rfl)) | (apply d_draw; (· exact mixed); (· simp only [List.size_toArray, List.length_cons, List.length_nil, Nat.reduceAdd]; try rfl)) | (apply d_done; (· decide +kernel)) | (apply a_0; (repeat (apply a_s; (· decide +kernel))); apply a_take; (· decide +kernel); (· first | exact qds_FPost | exact qds_RPost | exact qds_YB | assumption); (· rfl); (iterate 3 (· simp only [go_sem, *]; try rfl)); (· rfl); (· simp only [go_sem, *]; try rfl); simp only [putA]) | (apply a_0; (repeat (apply a_o; (· decide +kernel))); apply a_one; (· decide +kernel)) | apply pr_same | (apply o_call []; (iterate 2 (· simp only [go_sem, *]; try rfl)); (· rfl); (· simp only [go_sem, *]; try rfl); (· rfl); (iterate 2 (· simp only [go_sem, *]; try rfl)); (first | apply hv | apply hk | apply hw | apply hd); simp only [afterOp, putA]) | fail
        (apply f_ret; iterate 7 (· simp only [go_sem, *, Tryz.results10]; try rfl))
        exact H.out
    · have hw := rWords9 w0
      obtain ⟨a, rfl⟩ : ∃ a : Nat, m = a := ⟨m.toNat, by omega⟩
      have hd := fun S' => rDig w0 S' a (by omega)
      have hil : (Lib.itoa (a : Int)).length ≤ 3 := by rw [itoa_dig a (by omega)]; unfold digL; split <;> (try split) <;> simp
      have hadd : ∀ m : Nat, m ≤ 50 → m + (Lib.itoa (a : Int)).length ≤ 9223372036854775807 := fun m hm => by omega
      clear hs hql hq hm1 hm2 hil
      rcases hn with rfl | rfl
      all_goals
        refine enter Tryz.func10 rfl (by decide +kernel) (by rw [Tryz.ntmps10]; simp) (by rw [Tryz.ntmps10]; decide) (fun hO => ?_); rw [Tryz.ntmps10]
        repeat' first | apply x_seq | apply x_skip | apply x_block | apply x_ret | apply x_ops_nil | apply p_ret_it | apply p_ret_blk | apply p_end | (apply x_region; simp only [List.toList_toArray]) | (apply x_step0; (· rfl); (· simp only [go_sem, *]; try rfl); (· rfl); simp only [putA]) | (apply x_callA []; (· simp only [go_sem, *]; try rfl); (· rfl); (· simp only [go_sem, *]; try rfl); (· rfl); (iterate 2 (· simp only [go_sem, *]; try rfl)); (first | apply hv | apply hk | apply hw | apply hd); simp only [afterCall, putA]) | (apply x_condT; (· simp only [go_sem, *]; try rfl)) | (apply x_condF; (· simp only [go_sem, *]; try rfl)) | (apply d_draw; (· exact mixed); (· simp only [List.size_toArray, List.length_cons, List.length_nil, Nat.reduceAdd]; try rfl)) | (apply d_done; (· decide +kernel)) | (apply a_0; (repeat (apply a_s; (· decide +kernel))); apply a_take; (· decide +kernel); (· first | exact qds_FPost | exact qds_RPost | exact qds_YB | assumption); (· rfl); (iterate 3 (· simp only [go_sem, *]; try rfl)); (· rfl); (· simp only [go_sem, *]; try rfl); simp only [putA]) | (apply a_0; (repeat (apply a_o; (· decide +kernel))); apply a_one; (· decide +kernel)) | apply pr_same | (apply o_call []; (iterate 2 (· simp only [go_sem, *]; try rfl)); (· rfl); (· simp only [go_sem, *]; try rfl); (· rfl); (iterate 2 (· simp only [go_sem, *]; try rfl)); (first | apply hv | apply hk | apply hw | apply hd); simp only [afterOp, putA]) | fail
        (apply f_ret; iterate 7 (· simp only [go_sem, *, Tryz.results10]; try rfl))
        exact H.out
    · have hw := rWords0 w0
      have hadd : ∀ m : Nat, m ≤ 50 → m + (quoteC t).length ≤ 9223372036854775807 := fun m hm => by omega
      clear hs hql
      rcases hkk with rfl | rfl | rfl
      all_goals
        refine enter Tryz.func10 rfl (by decide +kernel) (by rw [Tryz.ntmps10]; simp) (by rw [Tryz.ntmps10]; decide) (fun hO => ?_); rw [Tryz.ntmps10]
        repeat' first | apply x_seq | apply x_skip | apply x_block | apply x_ret | apply x_ops_nil | apply p_ret_it | apply p_ret_blk | apply p_end | (apply x_region; simp only [List.toList_toArray]) | (apply x_step0; (· rfl); (· simp only [go_sem, *]; try rfl); (· rfl); simp only [putA]) | (apply x_callA []; (· simp only [go_sem, *]; try rfl); (· rfl); (· simp only [go_sem, *]; try rfl); (· rfl); (iterate 2 (· simp only [go_sem, *]; try rfl)); (first | apply hv | apply hk | (apply hw; (iterate 4 (· simp only [go_sem, *]; try rfl))) | apply hq); simp only [afterCall, putA]) | (apply x_condT; (· simp only [go_sem, *]; try rfl)) | (apply x_condF; (· simp only [go_sem, *]; try rfl)) | (apply d_draw; (· exact mixed); (· simp only [List.size_toArray, List.length_cons, List.length_nil, Nat.reduceAdd]; try rfl)) | (apply d_done; (· decide +kernel)) | (apply a_0; (repeat (apply a_s; (· decide +kernel))); apply a_take; (· decide +kernel); (· first | exact qds_FPost | exact qds_RPost | exact qds_YB | assumption); (· rfl); (iterate 3 (· simp only [go_sem, *]; try rfl)); (· rfl); (· simp only [go_sem, *]; try rfl); simp only [putA]) | (apply a_0; (repeat (apply a_o; (· decide +kernel))); apply a_one; (· decide +kernel)) | apply pr_same | (apply o_call []; (iterate 2 (· simp only [go_sem, *]; try rfl)); (· rfl); (· simp only [go_sem, *]; try rfl); (· rfl); (iterate 2 (· simp only [go_sem, *]; try rfl)); (first | apply hv | apply hk | (apply hw; (iterate 4 (· simp only [go_sem, *]; try rfl))) | apply hq); simp only [afterOp, putA]) | fail
        (apply f_ret; iterate 7 (· simp only [go_sem, *, Tryz.results10]; try rfl))
        exact H.out
    · have hw := rWords0 w0
      obtain ⟨a, rfl⟩ : ∃ a : Nat, n = a := ⟨n.toNat, by omega⟩
      have hd := fun S' => rDig w0 S' a (by omega)
      have hil : (Lib.itoa (a : Int)).length ≤ 3 := by rw [itoa_dig a (by omega)]; unfold digL; split <;> (try split) <;> simp
      have hadd : ∀ m : Nat, m ≤ 50 → m + (Lib.itoa (a : Int)).length ≤ 9223372036854775807 := fun m hm => by omega
      clear hs hql hq hn1 hn2 hil
      refine enter Tryz.func10 rfl (by decide +kernel) (by rw [Tryz.ntmps10]; simp) (by rw [Tryz.ntmps10]; decide) (fun hO => ?_); rw [Tryz.ntmps10]
      repeat' first | apply x_seq | apply x_skip | apply x_block | apply x_ret | apply x_ops_nil | apply p_ret_it | apply p_ret_blk | apply p_end | (apply x_region; simp only [List.toList_toArray]) | (apply x_step0; (· rfl); (· simp only [go_sem, *]; try rfl); (· rfl); simp only [putA]) | (apply x_callA []; (· simp only [go_sem, *]; try rfl); (· rfl); (· simp only [go_sem, *]; try rfl); (· rfl); (iterate 2 (· simp only [go_sem, *]; try rfl)); (first | apply hv | apply hk | (apply hw; (iterate 4 (· simp only [go_sem, *]; try rfl))) | apply hd); simp only [afterCall, putA]) | (apply x_condT; (· simp only [go_sem, *]; try rfl)) | (apply x_condF; (· simp only [go_sem, *]; try rfl)) | (apply d_draw; (· exact mixed); (· simp only [List.size_toArray, List.length_cons, List.length_nil, Nat.reduceAdd]; try rfl)) | (apply d_done; (· decide +kernel)) | (apply a_0; (repeat (apply a_s; (· decide +kernel))); apply a_take; (· decide +kernel); (· first | exact qds_FPost | exact qds_RPost | exact qds_YB | assumption); (· rfl); (iterate 3 (· simp only [go_sem, *]; try rfl)); (· rfl); (· simp only [go_sem, *]; try rfl); simp only [putA]) | (apply a_0; (repeat (apply a_o; (· decide +kernel))); apply a_one; (· decide +kernel)) | apply pr_same | (apply o_call []; (iterate 2 (· simp only [go_sem, *]; try rfl)); (· rfl); (· simp only [go_sem, *]; try rfl); (· rfl); (iterate 2 (· simp only [go_sem, *]; try rfl)); (first | apply hv | apply hk | (apply hw; (iterate 4 (· simp only [go_sem, *]; try rfl))) | apply hd); simp only [afterOp, putA]) | fail
      (apply f_ret; iterate 7 (· simp only [go_sem, *, Tryz.results10]; try rfl))
      exact H.out
end Go.Proofs.YtcobfilbmfokoaaGreatDoor
namespace Go.Proofs.YtcobfilbmfokoaaGreatDoor
open Go Go.Fen
set_option linter.unusedSimpArgs false
set_option linter.unusedVariables false
attribute [local irreducible] RunX WP ACall AnyP OpA ProtL
set_option maxRecDepth 8000
@[go_sem] theorem Cm.plainL (l : List Cm) : plainL (l.map Cm.av) = true := plainL_map (fun _ => rfl) l
@[go_sem] theorem Cm.ltL (l : List Cm) (n : Nat) : ltL n (l.map Cm.av) = true := ltL_iff.2 fun x hx => by obtain ⟨y, _, rfl⟩ := List.mem_map.1 hx; rfl
@[go_sem] theorem Cm.ok (l : List Cm) : okEls 4 (l.map Cm.av) = true := by
  unfold okEls; rw [List.all_eq_true]; intro x hx; obtain ⟨y, _, rfl⟩ := List.mem_map.1 hx; rfl
theorem cmdFacts (w0 : World) (hT : Tab w0) (x : Cm) (hx : x.text.length ≤ 250) : ∃ (y : List UInt8) (e g : Int),
    (∀ S' (R : AOut → List Blk → Prop), R (.ret (.tup [.str y, .int .i64 e])) S' → ACall Tryz.prog w0 9 [x.av] S' R) ∧
    (∀ S' (R : AOut → List Blk → Prop), R (.ret (.tup [.str y, .int .i64 e])) S' → ACall Tryz.prog w0 10 [x.av] S' R) ∧
    (∀ S' (R : AOut → List Blk → Prop), R (.ret (.int .i64 g)) S' → ACall Tryz.prog w0 11 [x.av] S' R) ∧
    (∀ S' (R : AOut → List Blk → Prop), R (.ret (.int .i64 g)) S' → ACall Tryz.prog w0 12 [x.av] S' R) :=
  ⟨(printP x).1, (printP x).2, if checkC x then 0 else 500, fun S' R h => cPrint w0 hT S' x (by omega) R h, fun S' R h => rPrint w0 S' x (by omega) R h,
    fun S' R h => cCheck w0 S' x (by omega) R h, fun S' R h => rCheckC w0 S' x (by omega) R h⟩
set_option maxHeartbeats 40000000 in
theorem printsLaw (w0 : World) (hT : Tab w0) (hPU : PU16 w0) (hE : ErrT w0) (S : List Blk) (ck cn cm : Int) (ct : List UInt8) (dk dn dm : Nat) (dt : List UInt8) (v : Int) (R : AOut → List Blk → Prop) (h : R (.ret (.bool true)) S) :
    ACall Tryz.prog w0 3 [.agg [.int .i64 ck, .int .i64 cn, .int .i64 cm, .str ct], draftV dk dn dm dt, .int .i64 v] S R := by
  have hwo := works w0 hT hPU hE
  have t1 := fun S' => rDraft w0 S' dk dn dm dt
  obtain ⟨ha, hal⟩ := draftC_ok dk dn dm dt
  generalize draftC dk dn dm dt = a at t1 ha hal
  have hcf := cmdFacts w0 hT
  have hmn : (if (250 : Int) < (ct.length : Int) then 250 else (ct.length : Int)) = ((min ct.length 250 : Nat) : Int) := by split <;> omega
  have hm2 : ((min ct.length 250 : Nat) : Int) ≤ (ct.length : Int) := by omega
  obtain ⟨q, hq, hql⟩ : ∃ q, List.take (min ct.length 250) ct = q ∧ q.length ≤ 250 := ⟨_, rfl, by simp; omega⟩
  obtain ⟨ak, an, am, at'⟩ := a
  simp only at hal
  unfold Cm.av at t1
  simp only at t1
  unfold draftV at t1 ⊢
  have Hcf := Lib.hid hcf
  have Hql := Lib.hid hql
  have Hal := Lib.hid hal
  have Hwo := Lib.hid hwo
  have H := Lib.hid h
  replace t1 := Lib.hid t1
  clear hcf hql hal hwo h ha hT hPU hE
  refine enter Tryz.func3 rfl (by decide +kernel) (by rw [Tryz.ntmps3]; simp) (by rw [Tryz.ntmps3]; decide) (fun hO => ?_); rw [Tryz.ntmps3]
  repeat' first | apply x_seq | apply x_block | apply x_ops_nil | (apply x_region; simp only [List.toList_toArray]) | (apply x_step0; (· rfl); (· simp only [go_sem, *]; try rfl); (· rfl); simp only [putA]) | (apply x_callA []; (· simp only [go_sem, *]; try rfl); (· rfl); (· simp only [go_sem, *]; try rfl); (· rfl); (iterate 2 (· simp only [go_sem, *]; try rfl)); (first | apply t1.out); simp only [afterCall, putA]) | (apply d_draw; (· exact mixed); (· simp only [List.size_toArray, List.length_cons, List.length_nil, Nat.reduceAdd]; try rfl)) | (apply d_done; (· decide +kernel)) | (apply a_0; (repeat (apply a_o; (· decide +kernel))); apply a_one; (· decide +kernel)) | (apply a_0; (repeat (apply a_s; (· decide +kernel))); apply a_take; (· decide +kernel); (· first | exact qds_FPost | exact qds_RPost | exact qds_YB | assumption); (· rfl); (iterate 3 (· simp only [go_sem, *]; try rfl)); (· rfl); (· simp only [go_sem, *]; try rfl); simp only [putA]) | (apply o_step; (iterate 3 (· simp only [go_sem, *]; try rfl)); (· rfl); simp only [putA]) | apply pr_same | apply pr_go | apply pl_nil | apply pl_none | (apply pl_one; (· simp only [go_sem, *]; try rfl)) | fail
  refine x_ind (fun (k : Int) env S' => (-1 ≤ k ∧ k ≤ 18) ∧ ∃ (L : List Cm) (g : Nat), ((L.length : Int) = 9 + 4 * k ∧ ∀ x ∈ L, x.text.length ≤ 250) ∧ env 1000000 = .dfr [] ∧ env 2 = .int .i64 v ∧ env 3 = .own S.length 0 ∧ env 7 = .own (S.length + 2) 0 ∧ env 8 = .sown (S.length + 3) g L.length ∧ env 9 = .int .i64 k ∧
    S' = S ++ [Blk.cells [.int .i64 ck, .int .i64 cn, .int .i64 cm, .str q], Blk.cells [.int .u8 dk, .int .u8 dn, .int .u8 dm, .str dt], Blk.cells [.int .i64 ak, .int .i64 an, .int .i64 am, .str at'], Blk.arr 23 4 0 g (L.map Cm.av)]) (fun k => (18 - k).toNat) (-1) ?_ ?_
  · refine ⟨by omega, [⟨ck, cn, cm, q⟩, ⟨ak, an, am, at'⟩, ⟨ak, v, am, at'⟩, ⟨ak, an, v, at'⟩, ⟨ak, an, am, q⟩], 0, ⟨by simp, ?_⟩, by (simp only [go_sem, *]; try rfl), by (simp only [go_sem, *]; try rfl), by (simp only [go_sem, *]; try rfl), by (simp only [go_sem, *]; try rfl), by (simp only [go_sem, *]; try rfl), by (simp only [go_sem, *]; try rfl), rfl⟩
    have h1 := Hql.out
    have h2 := Hal.out
    intro x hx
    simp only [List.mem_cons, List.not_mem_nil, or_false] at hx
    rcases hx with rfl | rfl | rfl | rfl | rfl <;> simp only <;> omega
  · rintro k env S' ⟨⟨hk1, hk2⟩, L, g, ⟨hL, htx⟩, e0, f2, f3, f7, f8, f9, rfl⟩ IH
    have HI := Lib.hid IH
    have Htx := Lib.hid htx
    clear IH htx hmn hm2 hq
    by_cases hlt : k ≤ 17
    · have d1 : decide (k ≤ 17) = true := decide_eq_true hlt
      have hw1 : IntKind.i64.wrap (k + 1) = k + 1 := IntWalk.i64_in _ (by omega)
      have hb8 : (L.length + 4) * 40 ≤ 140737488355328 := by omega
      have HL := Lib.hid (And.intro hL (And.intro hk1 hlt))
      clear hL hk1 hk2 hlt
      repeat' first | apply x_seq | apply x_skip | apply x_block | apply x_ops_nil | apply p_blk | (apply x_region; simp only [List.toList_toArray]) | (apply x_step0; (· rfl); (· simp only [go_sem, *]; try rfl); (· rfl); simp only [putA]) | (apply x_condT; (· simp only [go_sem, *]; try rfl)) | fail
      refine x_keep hO 4 [2, 3, 7, 8, 9] rfl (by (simp only [go_sem, *]; try rfl)) (by (simp only [go_sem, *]; try rfl)) (by (simp only [go_sem, *]; try rfl)) ?_
      simp only [List.take_succ_cons, List.take_zero]
      obtain ⟨hL, hk1, hlt⟩ := HL.out
      refine HI.out (k + 1) _ _ (by omega) ⟨by omega, L ++ [⟨k, cn, cm, q⟩, ⟨k, IntKind.i64.wrap ((IntKind.u64.wrap v).tmod 11), 0, []⟩, ⟨k, an, IntKind.i64.wrap ((IntKind.u64.wrap v).tmod 102), []⟩, ⟨k, 0, 0, at'⟩], g + 1, ⟨by rw [List.length_append]; simp; omega, ?_⟩, ?_, ?_, ?_, ?_, ?_, ?_, ?_⟩
      · have h1 := Hql.out
        have h2 := Hal.out
        have h3 := Htx.out
        intro x hx
        rcases List.mem_append.1 hx with hx | hx
        · exact h3 x hx
        · simp only [List.mem_cons, List.not_mem_nil, or_false] at hx
          rcases hx with rfl | rfl | rfl | rfl <;> simp only [List.length_nil] <;> omega
      · (simp only [go_sem, *]; try rfl)
      · (simp only [go_sem, *]; try rfl)
      · (simp only [go_sem, *]; try rfl)
      · (simp only [go_sem, *]; try rfl)
      · rw [List.length_append]; (simp only [go_sem, *]; try rfl)
      · (simp only [go_sem, *]; try rfl)
      · rw [List.map_append]; rfl
    · have d1 : decide (k ≤ 17) = false := decide_eq_false hlt
      have hLl : L.length ≤ 100 := by omega
      clear hL hk1 hk2 hlt HI
      repeat' first | apply x_seq | apply x_block | apply x_exit | apply x_ops_nil | apply p_exit_it | apply p_exit_hit | (apply x_region; simp only [List.toList_toArray]) | (apply x_step0; (· rfl); (· simp only [go_sem, *]; try rfl); (· rfl); simp only [putA]) | (apply x_condF; (· simp only [go_sem, *]; try rfl)) | fail
      refine x_ind (fun (i : Nat) env S' => i ≤ L.length ∧ env 1000000 = .dfr [] ∧ env 8 = .sown (S.length + 3) g L.length ∧ env 10 = .int .i64 (i : Int) ∧ S' = S ++ [Blk.cells [.int .i64 ck, .int .i64 cn, .int .i64 cm, .str q], Blk.cells [.int .u8 dk, .int .u8 dn, .int .u8 dm, .str dt], Blk.cells [.int .i64 ak, .int .i64 an, .int .i64 am, .str at'], Blk.arr 23 4 0 g (L.map Cm.av)]) (fun i => L.length - i) 0 ?_ ?_
      · exact ⟨Nat.zero_le _, by (simp only [go_sem, *]; try rfl), by (simp only [go_sem, *]; try rfl), by (simp only [go_sem, *]; try rfl), by (simp only [go_sem, *]; try rfl)⟩
      · rintro i env S' ⟨hi, e0, f8, f10, rfl⟩ IH
        have HI := Lib.hid IH
        clear IH
        by_cases hlt : i < L.length
        · obtain ⟨x, hx⟩ : ∃ x, L[i]? = some x := ⟨_, List.getElem?_eq_getElem hlt⟩
          obtain ⟨y, e, z, c1, c2, c3, c4⟩ := Hcf.out x (Htx.out x (List.mem_of_getElem? hx))
          obtain ⟨xk, xn, xm, xt⟩ := x
          unfold Cm.av at c1 c2 c3 c4
          simp only at c1 c2 c3 c4
          have b1 : (y != y) = false := by simp
          have b2 : (e != e) = false := by simp
          have b3 : (z != z) = false := by simp
          have d2 : decide ((i : Int) < (L.length : Int)) = true := by simpa using hlt
          have hw1 : IntKind.i64.wrap ((i : Int) + 1) = (i : Int) + 1 := IntWalk.i64_in _ (by omega)
          have hlen : (L.map Cm.av).length = L.length := by simp
          have d3 : (i : Int) < (L.length : Int) := by omega
          have Hlt := Lib.hid hlt
          replace c1 := Lib.hid c1
          replace c2 := Lib.hid c2
          replace c3 := Lib.hid c3
          replace c4 := Lib.hid c4
          clear hlt hi hLl
          repeat' first | apply x_seq | apply x_skip | apply x_block | apply x_ops_nil | apply p_blk | (apply x_region; simp only [List.toList_toArray]) | (apply x_step0; (· rfl); (· simp only [go_sem, *, Cm.av]; try rfl); (· rfl); simp only [putA]) | (apply x_callA []; (· simp only [go_sem, *, Cm.av]; try rfl); (· rfl); (· simp only [go_sem, *, Cm.av]; try rfl); (· rfl); (iterate 2 (· simp only [go_sem, *, Cm.av]; try rfl)); (first | apply c1.out | apply c2.out | apply c3.out | apply c4.out); simp only [afterCall, putA]) | (apply x_condT; (· simp only [go_sem, *, Cm.av]; try rfl)) | (apply x_condF; (· simp only [go_sem, *, Cm.av]; try rfl)) | (apply d_draw; (· exact mixed); (· simp only [List.size_toArray, List.length_cons, List.length_nil, Nat.reduceAdd]; try rfl)) | (apply d_done; (· decide +kernel)) | (apply a_0; (repeat (apply a_s; (· decide +kernel))); apply a_take; (· decide +kernel); (· first | exact qds_FPost | exact qds_RPost | exact qds_YB | assumption); (· rfl); (iterate 3 (· simp only [go_sem, *, Cm.av]; try rfl)); (· rfl); (· simp only [go_sem, *, Cm.av]; try rfl); simp only [putA]) | (apply a_0; (repeat (apply a_o; (· decide +kernel))); apply a_one; (· decide +kernel)) | apply pr_same | (apply o_call []; (iterate 2 (· simp only [go_sem, *, Cm.av]; try rfl)); (· rfl); (· simp only [go_sem, *, Cm.av]; try rfl); (· rfl); (iterate 2 (· simp only [go_sem, *, Cm.av]; try rfl)); (first | apply c1.out | apply c2.out | apply c3.out | apply c4.out); simp only [afterOp, putA]) | fail
          refine x_keep hO 4 [8, 10] rfl (by (simp only [go_sem, *]; try rfl)) (by (simp only [go_sem, *]; try rfl)) (by (simp only [go_sem, *]; try rfl)) ?_
          simp only [List.take_succ_cons, List.take_zero]
          refine HI.out (i + 1) _ _ (by have := Hlt.out; omega) ⟨Hlt.out, ?_, ?_, ?_, rfl⟩
          · (simp only [go_sem, *]; try rfl)
          · (simp only [go_sem, *]; try rfl)
          · (simp only [go_sem, *]; try rfl)
        · have d2 : decide ((i : Int) < (L.length : Int)) = false := by simpa using hlt
          have h := H.out
          clear hlt hi hLl HI
          repeat' first | apply x_seq | apply x_exit | apply x_ret | apply x_ops_nil | apply p_exit_it | apply p_exit_hit | apply p_end | (apply x_region; simp only [List.toList_toArray]) | (apply x_step0; (· rfl); (· simp only [go_sem, *]; try rfl); (· rfl); simp only [putA]) | (apply x_callA []; (· simp only [go_sem, *]; try rfl); (· rfl); (· simp only [go_sem, *]; try rfl); (· rfl); (iterate 2 (· simp only [go_sem, *]; try rfl)); (first | apply Hwo.out); simp only [afterCall, putA]) | (apply x_condF; (· simp only [go_sem, *]; try rfl)) | fail
          (apply f_ret; iterate 7 (· simp only [go_sem, *, Tryz.results3]; try rfl))
          exact h
end Go.Proofs.YtcobfilbmfokoaaGreatDoor
namespace Go.Proofs.YtcobfilbmfokoaaGreatDoor
open Go Go.Fen
set_option linter.unusedSimpArgs false
set_option linter.unusedVariables false
attribute [local irreducible] RunX WP ACall AnyP OpA ProtL
set_option maxRecDepth 8000
open Go.ChangeShapes Go.WideShapes Go.ChangeAt Go.RowKit
theorem own : ownKnob Tryz.prog.godebug = none := by kernel_rfl
theorem laid_mem {P : Program} {W : World} {nm : String} {d : DataW Unit} : ∀ {l : List (String × DataW Unit)} {ps : List MemPlace}, DataW.LaidVars P W l ps → (nm, d) ∈ l →
    ∃ g t cs fuel p, P.globalNamed nm = some g ∧ (P.globals[g]?).map (·.type) = some t ∧ W.var? P nm = some cs ∧ DataW.trod (fun _ => ()) P W 0 (fun _ => true) false fuel t cs.toList = some (d, p) := by
  intro l
  induction l with
  | nil => intro ps _ h; cases h
  | cons x l ih =>
    intro ps h hm
    obtain ⟨nm', d'⟩ := x
    obtain ⟨g, t, cs, fuel, p, q, h1, h2, h3, h4, h5, _⟩ := h
    rcases List.mem_cons.1 hm with e | hm
    · cases e; exact ⟨g, t, cs, fuel, p, h1, h2, h3, h4⟩
    · exact ih h5 hm
def plainLaid : List (String × DataW Unit) := [("math/bits.deBruijn32tab", Rows.laid_math_bits_deBruijn32tab), ("math/bits.deBruijn64tab", Rows.laid_math_bits_deBruijn64tab), ("internal/strconv.uint64pow10", Rows.laid_internal_strconv_uint64pow10), ("unicode/utf8.acceptRanges", Rows.laid_unicode_utf8_acceptRanges), ("strconv.ErrRange", Rows.laid_strconv_ErrRange), ("strconv.ErrSyntax", Rows.laid_strconv_ErrSyntax), ("unicode/utf8.first", Rows.laid_unicode_utf8_first)]
def seatLaid : List (String × DataW Unit) := [("math/bits.deBruijn32tab", Rows.laid_math_bits_deBruijn32tab), ("math/bits.deBruijn64tab", Rows.laid_math_bits_deBruijn64tab), ("internal/strconv.uint64pow10", Rows.laid_internal_strconv_uint64pow10), ("unicode/utf8.acceptRanges", Rows.laid_unicode_utf8_acceptRanges), ("errors.errorType", Rows.laid_errors_errorType), ("strconv.ErrRange", Rows.laid_strconv_ErrRange), ("strconv.ErrSyntax", Rows.laid_strconv_ErrSyntax), ("unicode/utf8.first", Rows.laid_unicode_utf8_first)]
theorem laid_plain : (seatLaid.filter fun x => x.2.handleName?.isNone) = plainLaid := by kernel_rfl
theorem laid_handle : (seatLaid.filter fun x => x.2.handleName?.isSome) = [("errors.errorType", Rows.laid_errors_errorType)] := by kernel_rfl
theorem gPow : Tryz.prog.globalNamed "internal/strconv.uint64pow10" = some 2 := by kernel_rfl
theorem gSyn : Tryz.prog.globalNamed "strconv.ErrSyntax" = some 5 := by kernel_rfl
theorem tab_of {W : World} (h : laidMetH Tryz.prog seatLaid W) : Tab W := by
  have h := (laidMetH_iff.1 h).1
  rw [laid_plain] at h
  obtain ⟨ps, hl, _⟩ := h
  obtain ⟨g, t, cs, fuel, p, h1, h2, h3, h4⟩ := laid_mem (nm := "internal/strconv.uint64pow10") (d := Rows.laid_internal_strconv_uint64pow10) hl (by simp [plainLaid])
  obtain rfl := Option.some.inj (gPow.symm.trans h1)
  obtain rfl := Option.some.inj ((show (Tryz.prog.globals[2]?).map (·.type) = some 158 by kernel_rfl).symm.trans h2)
  have h5 := Lib.cells_of_tab (k := .u64) (zs := Lib.pow10Tab) (un_158) (un_107) (by kernel_rfl) (by kernel_rfl) h4
  unfold Tab Lib.TabIs
  rw [h3, ← h5]
theorem syn_of {W : World} (h : laidMetH Tryz.prog seatLaid W) : Syn W := by
  have h := (laidMetH_iff.1 h).1
  rw [laid_plain] at h
  obtain ⟨ps, hl, _⟩ := h
  obtain ⟨g, t, cs, fuel, p, h1, h2, h3, h4⟩ := laid_mem (nm := "strconv.ErrSyntax") (d := Rows.laid_strconv_ErrSyntax) hl (by simp [plainLaid])
  obtain rfl := Option.some.inj (gSyn.symm.trans h1)
  obtain rfl := Option.some.inj ((show (Tryz.prog.globals[5]?).map (·.type) = some 67 by kernel_rfl).symm.trans h2)
  cases fuel with
  | zero => simp [DataW.trod] at h4
  | succ fuel =>
  simp only [DataW.trod, un_67] at h4
  have hc := World.var?_cell gSyn h3 0
  match hcs : cs.toList, h4 with
  | [.nilIface], _ => exact ⟨.nilIface, by rw [hc, ← Array.getElem?_toList, hcs]; rfl, .inl rfl⟩
  | [.iface u v], _ => exact ⟨.iface u v, by rw [hc, ← Array.getElem?_toList, hcs]; rfl, .inr ⟨u, v, rfl⟩⟩
theorem gErr : Tryz.prog.globalNamed "errors.errorType" = some 0 := by kernel_rfl
theorem gRt : (Tryz.prog.cutTypes.find? (·.1 == "internal/reflectlite.rtype")).map (·.2) = some 119 := by kernel_rfl
theorem gSize : Tryz.prog.types.size = 230 := by kernel_rfl
theorem gRow : ((List.range 230).filter fun t => Tryz.prog.rowNamed t [101, 114, 114, 111, 114]) = [67] := by kernel_rfl
theorem errT_of {W : World} (h : laidMetH Tryz.prog seatLaid W) : ErrT W := by
  have h := (laidMetH_iff.1 h).2
  rw [laid_handle] at h
  obtain ⟨name, u, ty, e1, e2, e3, e4, e5⟩ := h _ (List.mem_singleton.2 rfl)
  have en : name = [101, 114, 114, 111, 114] := (Option.some.inj e1).symm
  subst en
  obtain rfl := Option.some.inj (gRt.symm.trans e2)
  have hm : ty ∈ (List.range 230).filter fun t => Tryz.prog.rowNamed t [101, 114, 114, 111, 114] := List.mem_filter.2 ⟨List.mem_range.2 (by rw [← gSize]; exact e3), e4⟩
  rw [gRow] at hm
  obtain rfl := List.mem_singleton.1 hm
  have hh : typeHandle Tryz.prog 67 = .pointer (some ⟨9, 67, none⟩) := by kernel_rfl
  rw [hh] at e5
  unfold ErrT
  simpa using World.var?_cell gErr e5 0
noncomputable def handWorld (os : Os) : World :=
  let w0 := World.holding Tryz.prog os ⟨#[], #[], []⟩
  { w0 with heap := w0.heap.modify 0 fun
      | .cells _ t frozen => .cells #[.iface 119 (.agg #[.pointer (some ⟨9, 67, none⟩)])] t frozen
      | o => o }
noncomputable def seatWorld (os : Os) : World := (handWorld os).layVars Tryz.prog plainLaid
theorem seatWorld_os (os : Os) : (seatWorld os).os = os := World.layVars_os _ _ _
theorem seatWorld_met (os : Os) (args : Array Value) : laidMetH Tryz.prog seatLaid ((seatWorld os).forCall (fun _ _ => 0) ⟨#[], args, []⟩).memory := by
  refine laidMetH_of_parts ?_ (by rw [laid_handle]; kernel_rfl)
  rw [laid_plain]
  have e1 : (plainLaid.filter fun x => (plainLaid.map (·.1)).contains x.1) = plainLaid := List.filter_eq_self.2 fun x hx => List.contains_iff_mem.2 (List.mem_map.2 ⟨x, hx, rfl⟩)
  have e2 : (plainLaid.filter fun x => !(plainLaid.map (·.1)).contains x.1) = [] := List.filter_eq_nil_iff.2 fun x hx => by rw [List.contains_iff_mem.2 (List.mem_map.2 ⟨x, hx, rfl⟩)]; simp
  have h : laidMet Tryz.prog plainLaid (seatWorld os) := laidMet_layVars (w0 := handWorld os) (plainLaid.map (·.1)) [] (by rw [e1]; rfl) (by rw [e1]; kernel_rfl) (by rw [e1]; kernel_rfl) (by rw [e2]; exact LaidIn.none)
  exact h.of_heap (by simp [World.memory, World.forCall, Input.heap])
theorem wf_nat {k : IntKind} {n : Int} (h : (Lit.int k n).wf = true) (hk : k.min = 0) : ((n.toNat : Nat) : Int) = n := by
  simp only [Lit.wf, Bool.and_eq_true, decide_eq_true_eq, hk] at h
  omega
theorem laidOut : laidOutB Tryz.prog = true := by kernel_rfl
end Go.Proofs.YtcobfilbmfokoaaGreatDoor
namespace Go.Proofs.YtcobfilbmfokoaaGreatDoor
open Go Go.Fen
set_option linter.unusedSimpArgs false
set_option linter.unusedVariables false
attribute [local irreducible] RunX WP ACall AnyP OpA ProtL
set_option maxRecDepth 8000
def draftSk : Sk := .cons (.int .u8) (.cons (.int .u8) (.cons (.int .u8) (.cons .str .nil)))
theorem open_draft (y : List AV) (h : draftSk.has y) : ∃ k n m : Nat, ∃ t : List UInt8, draftSk.mk y = draftV k n m t := by
  obtain ⟨_, _, rfl, ⟨a, rfl, ha⟩, _, _, rfl, ⟨b, rfl, hb⟩, _, _, rfl, ⟨c, rfl, hc⟩, _, _, rfl, ⟨s, rfl, _⟩, rfl⟩ := h
  exact ⟨a.toNat, b.toNat, c.toNat, s, by simp [Sk.mk, draftSk, Sk.isAgg, draftV, wf_nat ha rfl, wf_nat hb rfl, wf_nat hc rfl]⟩
def cmdSk : Sk := .cons (.int .i64) (.cons (.int .i64) (.cons (.int .i64) (.cons .str .nil)))
theorem open_cmd (y : List AV) (h : cmdSk.has y) : ∃ k n m : Int, ∃ t : List UInt8, cmdSk.mk y = .agg [.int .i64 k, .int .i64 n, .int .i64 m, .str t] := by
  obtain ⟨_, _, rfl, ⟨a, rfl, _⟩, _, _, rfl, ⟨b, rfl, _⟩, _, _, rfl, ⟨c, rfl, _⟩, _, _, rfl, ⟨s, rfl, _⟩, rfl⟩ := h
  exact ⟨a, b, c, s, rfl⟩
theorem open_i64 (y : List AV) (h : (Sk.int .i64).has y) : ∃ n : Int, (Sk.int .i64).mk y = .int .i64 n := by
  obtain ⟨n, rfl, _⟩ := h
  exact ⟨n, rfl⟩
namespace CommandPrints
theorem contract (H : Type) (enc : TypeId × Value → H) (W : World) (base : Nat) (args : Array Value) (ds gs : List (DataW H)) (before : List MemPlace)
    (hval : ∀ (j : Nat) t v, Tryz.f3.params[j]? = some t → args[j]? = some v → Value.okWide Tryz.prog W .any base t v)
    (hW : DataW.Whole enc Tryz.prog Tryz.f3.params.toList Rows.commandPrintsSpec.vars false W args.toList ds gs before) (hL : laidMetH Tryz.prog seatLaid W) :
    Calls Tryz.prog 3 args W fun e W' => ∃ v, e = .returned v ∧ Rows.commandPrintsSpec.post enc Tryz.prog Tryz.f3 false true false false W args v W' := by
  refine law_close (n := 20) (tb := 4) [cmdSk, draftSk, (.int .i64)] laidOut ?_ (by rw [Tryz.params3]; kernel_rfl) (by kernel_rfl) un_4 rfl ?_ hW hval ?_
  · rw [Tryz.params3]
    have : ([23, 25, 3].all fun t => Tryz.prog.readableRec t && decide (t < Tryz.prog.types.size)) = true := by kernel_rfl
    intro t ht
    simpa using List.all_eq_true.1 this t (by simpa using ht)
  · intro h
    rw [Tryz.params3] at h
    match ds, h with
    | [d1, d2, d3], _ => rfl
  · intro avs ha
    obtain ⟨y1, r1, h1, e1, ha1⟩ := ArgsH.cons' ha
    obtain ⟨y2, r2, h2, e2, ha2⟩ := ArgsH.cons' ha1
    obtain ⟨y3, r3, h3, e3, ha3⟩ := ArgsH.cons' ha2
    have e4 := ArgsH.nil' ha3
    rw [e1, e2, e3, e4]
    obtain ⟨ck, cn, cm, ct, hd⟩ := open_cmd y1 h1
    obtain ⟨k, n, m, t, hd2⟩ := open_draft y2 h2
    obtain ⟨v, hd3⟩ := open_i64 y3 h3
    rw [hd, hd2, hd3]
    exact printsLaw W (tab_of hL) (parseUint W (syn_of hL)) (errT_of hL) [] ck cn cm ct k n m t v _ rfl
def wit : Array Value := #[.agg #[.int .i64 0, .int .i64 0, .int .i64 0, .string ⟨#[]⟩], .agg #[.int .u8 0, .int .u8 0, .int .u8 0, .string ⟨#[]⟩], .int .i64 0]
set_option maxRecDepth 100000 in
theorem lifted (os : Os) (started : os.Started) (H : Type) (enc : TypeId × Value → H) :
    ReturnsInHanded {} Tryz.checked os 3 .any (fun w args => (Rows.commandPrintsSpec.pre enc Tryz.prog Tryz.f3 Rows.commandPrintsRow.domain false w args ∧ laidMetH Tryz.prog seatLaid w) ∧ sizedMet enc Tryz.prog Tryz.f3 (OpenSpec.ofChange Rows.commandPrintsSpec) false w args)
      (Rows.commandPrintsSpec.post enc Tryz.prog Tryz.f3 false true false false) := by
  refine returnsInHanded_of_change_and (C := Tryz.checked) (X := fun w _ => laidMetH Tryz.prog seatLaid w) (fun _ _ _ hh h => h.of_heap hh) own started (by kernel_rfl) Tryz.func3
    (ChangeSpec.witness_shaped (enc := enc) (C := Tryz.checked) (os := os) (X := fun w _ => laidMetH Tryz.prog seatLaid w) false (seatWorld os) wit 8 (seatWorld_os _)
      (World.shaped_of_ZipB (by kernel_rfl) (by kernel_rfl)) (by kernel_rfl) (by kernel_rfl) (by kernel_rfl)
      (seatWorld_met os _)) ?_
  intro W base args ds gs before hval hW _ _ hL _
  exact contract H enc W base args ds gs before hval hW hL
theorem said : Rows.CommandPrintsSaid :=
  OpenClaim.holds_of_wide 3 Tryz.f3 rfl rfl rfl rfl rfl rfl rfl ⟨rfl, rfl, rfl, rfl, rfl⟩ rfl rfl rfl rfl rfl (by kernel_rfl) Tryz.func3 (by kernel_rfl)
    (of_decide_eq_true (by kernel_rfl)) (by unfold Func.isWrapper; first | (rw [if_pos (by decide +kernel)]; kernel_rfl) | (rw [if_neg (by decide +kernel)]; exact ⟨rfl, rfl⟩))
    (fun os started H enc _ => lifted os started H enc)
theorem plainF (f : FuncId) (fn : Func) (hf : Tryz.pinned.checked.prog.funcNamed "fenestra/fenestralaw40.CommandPrints" = some f) (hfn : Tryz.pinned.checked.prog.funcs[f]? = some fn) :
    true = Tryz.pinned.checked.prog.looks [] ∧ ∀ (j : Nat) t, fn.params[j]? = some t → Tryz.pinned.checked.prog.wantsStandIn t = false := by
  obtain rfl : f = 3 := Option.some.inj ((show Tryz.prog.funcNamed "fenestra/fenestralaw40.CommandPrints" = some 3 by kernel_rfl).symm.trans hf) |>.symm
  obtain rfl : fn = Tryz.f3 := (Option.some.inj (Tryz.func3.symm.trans hfn)).symm
  refine ⟨by kernel_rfl, fun j t ht => ?_⟩
  rw [Tryz.params3] at ht
  have hm : t ∈ [23, 25, 3] := by simpa using Array.mem_of_getElem? ht
  have hall : ([23, 25, 3].all fun u => !Tryz.prog.wantsStandIn u) = true := by kernel_rfl
  exact (show Tryz.prog.wantsStandIn t = false by simpa using List.all_eq_true.1 hall t hm)
theorem card : Rows.CommandPrintsCardSaid :=
  Claim7.holds_tied_plain_at .later [] _ _ _ _ said (fun _ h => by cases h) (by kernel_rfl) (fun _ h => by cases h) commandPrints_row_tie rfl ⟨rfl, rfl⟩ (by kernel_rfl) rfl plainF (by kernel_rfl)
end CommandPrints
end Go.Proofs.YtcobfilbmfokoaaGreatDoor
