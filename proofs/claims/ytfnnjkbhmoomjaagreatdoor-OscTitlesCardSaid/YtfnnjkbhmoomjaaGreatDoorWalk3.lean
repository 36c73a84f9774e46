/- YtfnnjkbhmoomjaaGreatDoorWalk3. Texts of the proof of a law about texts: a layer of abstract values above the worlds, the types, the walks of the functions that the law reaches, the law and its card. Own work of an AI agent. -/
import Derived.Test.YtfnnjkbhmoomjaaGreatDoorWalk1
import Derived.Test.YtfnnjkbhmoomjaaGreatDoorWalk2
set_option linter.all false
set_option linter.unusedVariables false
set_option linter.unusedSimpArgs false
namespace Go.Proofs.YtfnnjkbhmoomjaaGreatDoor
open Go Go.Fen
set_option linter.unusedSimpArgs false
set_option linter.unusedVariables false
attribute [local irreducible] RunX WP ACall AnyP OpA ProtL afterCall afterOp
set_option maxRecDepth 8000
theorem lSays (w0 : World) (hP : ParseOk w0) (S : List Blk) (s : List UInt8) (a : Ac) (hs : s.length ≤ 8192) (he : parseO s = some a) (R : AOut → List Blk → Prop) (h : R (.ret (.bool true)) S) : ACall Tryz.prog w0 15 [.str s, a.av] S R := by
  have hp := fun S' => hP S' s hs
  rw [he] at hp
  unfold parV at hp
  obtain ⟨k, n, m, ck, cn, t⟩ := a
  unfold Ac.av at hp ⊢
  simp only at hp ⊢
  clear he hs hP
  refine enter Tryz.func15 rfl (by decide +kernel) (by rw [Tryz.ntmps15]; simp) (by rw [Tryz.ntmps15]; decide) (fun hO => ?_); rw [Tryz.ntmps15]
  repeat' first | refine st ?_ | (refine ca ?_; first | apply hp) | (refine br ?_ ?_; all_goals (intro hb; try simp only [Bool.not_eq_true', Bool.not_eq_false'] at hb)) | fail
  (apply f_ret; iterate 7 (· simp only [go_sem, *, Tryz.results15]; try rfl))
  exact h
theorem lNone (w0 : World) (hP : ParseOk w0) (S : List Blk) (s : List UInt8) (hs : s.length ≤ 8192) (he : parseO s = none) (R : AOut → List Blk → Prop) (h : R (.ret (.bool true)) S) : ACall Tryz.prog w0 18 [.str s] S R := by
  have hp := fun S' => hP S' s hs
  rw [he] at hp
  unfold parV zeroA Ac.av at hp
  simp only at hp
  clear he hs hP
  refine enter Tryz.func18 rfl (by decide +kernel) (by rw [Tryz.ntmps18]; simp) (by rw [Tryz.ntmps18]; decide) (fun hO => ?_); rw [Tryz.ntmps18]
  repeat' first | refine st ?_ | (refine ca ?_; first | apply hp) | (refine br ?_ ?_; all_goals (intro hb; try simp only [Bool.not_eq_true', Bool.not_eq_false'] at hb)) | fail
  (apply f_ret; iterate 7 (· simp only [go_sem, *, Tryz.results18]; try rfl))
  exact h
theorem lTold (w0 : World) (hP : ParseOk w0) (hQ : PrintOk w0) (S : List Blk) (a : Ac) (s : List UInt8) (ha : a.text.length ≤ 10000) (he : printO a = some s) (R : AOut → List Blk → Prop) (h : R (.ret (.bool true)) S) : ACall Tryz.prog w0 21 [a.av, .str s] S R := by
  have hq := fun S' => hQ S' a ha
  obtain ⟨h1, h2, h3, _⟩ := parse_print he
  have hy := fun S' => lSays w0 hP S' s a (by omega) h1
  rw [he] at hq
  unfold printV at hq
  obtain ⟨k, n, m, ck, cn, t⟩ := a
  unfold Ac.av at hq hy ⊢
  simp only at hq hy ⊢
  clear he ha hP hQ h1 h2 h3
  refine enter Tryz.func21 rfl (by decide +kernel) (by rw [Tryz.ntmps21]; simp) (by rw [Tryz.ntmps21]; decide) (fun hO => ?_); rw [Tryz.ntmps21]
  repeat' first | refine st ?_ | (refine ca ?_; first | apply hq | apply hy) | (refine br ?_ ?_; all_goals (intro hb; try simp only [Bool.not_eq_true', Bool.not_eq_false'] at hb)) | fail
  (apply f_ret; iterate 7 (· simp only [go_sem, *, Tryz.results21]; try rfl))
  exact h
end Go.Proofs.YtfnnjkbhmoomjaaGreatDoor
namespace Go.Proofs.YtfnnjkbhmoomjaaGreatDoor
open Go Go.Fen
set_option linter.unusedSimpArgs false
set_option linter.unusedVariables false
attribute [local irreducible] RunX WP ACall AnyP OpA ProtL afterCall afterOp
set_option maxRecDepth 8000
def WorksOk (w0 : World) : Prop := ∀ (S : List Blk) (R : AOut → List Blk → Prop), R (.ret (.bool true)) S → ACall Tryz.prog w0 12 [] S R
end Go.Proofs.YtfnnjkbhmoomjaaGreatDoor
namespace Go.Proofs.YtfnnjkbhmoomjaaGreatDoor
open Go Go.Fen
set_option linter.unusedSimpArgs false
set_option linter.unusedVariables false
attribute [local irreducible] RunX WP ACall AnyP OpA ProtL afterCall afterOp
set_option maxRecDepth 8000
def SayOk (s : List UInt8) (a : Ac) : Prop := s.length ≤ 8192 ∧ parseO s = some a
def NoneOk (s : List UInt8) : Prop := s.length ≤ 8192 ∧ parseO s = none
def ToldOk (a : Ac) (s : List UInt8) : Prop := a.text.length ≤ 10000 ∧ printO a = some s
def NoPr (a : Ac) : Prop := a.text.length ≤ 10000 ∧ printO a = none
theorem sSays (w0 : World) (hP : ParseOk w0) (S : List Blk) (s : List UInt8) (k n m ck cn : Int) (t : List UInt8) (R : AOut → List Blk → Prop) (hs : SayOk s ⟨k, n, m, ck, cn, t⟩) (h : R (.ret (.bool true)) S) : ACall Tryz.prog w0 15 [.str s, .agg [.int .i64 k, .int .i64 n, .int .i64 m, .int .i64 ck, .int .i64 cn, .str t]] S R := lSays w0 hP S s _ hs.1 hs.2 R h
theorem sNone (w0 : World) (hP : ParseOk w0) (S : List Blk) (s : List UInt8) (R : AOut → List Blk → Prop) (hs : NoneOk s) (h : R (.ret (.bool true)) S) : ACall Tryz.prog w0 18 [.str s] S R := lNone w0 hP S s hs.1 hs.2 R h
theorem sTold (w0 : World) (hP : ParseOk w0) (hQ : PrintOk w0) (S : List Blk) (k n m ck cn : Int) (t s : List UInt8) (R : AOut → List Blk → Prop) (hs : ToldOk ⟨k, n, m, ck, cn, t⟩ s) (h : R (.ret (.bool true)) S) : ACall Tryz.prog w0 21 [.agg [.int .i64 k, .int .i64 n, .int .i64 m, .int .i64 ck, .int .i64 cn, .str t], .str s] S R := lTold w0 hP hQ S _ s hs.1 hs.2 R h
theorem sNoPr (w0 : World) (hQ : PrintOk w0) (S : List Blk) (k n m ck cn : Int) (t : List UInt8) (R : AOut → List Blk → Prop) (hs : NoPr ⟨k, n, m, ck, cn, t⟩) (h : R (.ret (.tup [.str [], .int .i64 2])) S) : ACall Tryz.prog w0 10 [.agg [.int .i64 k, .int .i64 n, .int .i64 m, .int .i64 ck, .int .i64 cn, .str t]] S R := hQ S _ hs.1 R (by rw [hs.2]; exact h)
theorem sTitled (w0 : World) (S : List Blk) (s : List UInt8) (R : AOut → List Blk → Prop) (h : R (.ret (.agg [.int .i64 44, .int .i64 0, .int .i64 0, .int .i64 0, .int .i64 0, .str s])) S) : ACall Tryz.prog w0 17 [.str s] S R := lTitled w0 S s R h
theorem sClip (w0 : World) (S : List Blk) (s : List UInt8) (R : AOut → List Blk → Prop) (h : R (.ret (.agg [.int .i64 46, .int .i64 0, .int .i64 0, .int .i64 0, .int .i64 0, .str s])) S) : ACall Tryz.prog w0 20 [.str s] S R := lClip w0 S s R h
theorem sPalette (w0 : World) (S : List Blk) (n c : Int) (R : AOut → List Blk → Prop) (h : R (.ret (.agg [.int .i64 45, .int .i64 n, .int .i64 0, .int .i64 2, .int .i64 c, .str []])) S) : ACall Tryz.prog w0 22 [.int .i64 n, .int .i64 c] S R := lPalette w0 S n c R h
theorem eA0 : ToldOk ⟨44, 0, 0, 0, 0, [104, 105]⟩ [50, 59, 104, 105] := ⟨by decide, by decide +kernel⟩
theorem eA1 : ToldOk ⟨45, 7, 0, 2, 16711808, []⟩ [52, 59, 55, 59, 114, 103, 98, 58, 102, 102, 47, 48, 48, 47, 56, 48] := ⟨by decide, by decide +kernel⟩
theorem eA2 : ToldOk ⟨46, 0, 0, 0, 0, [102]⟩ [53, 50, 59, 99, 59, 90, 103, 61, 61] := ⟨by decide, by decide +kernel⟩
theorem eB0 : SayOk [48, 59, 97, 59, 98] ⟨44, 0, 0, 0, 0, [97, 59, 98]⟩ := ⟨by decide, by decide +kernel⟩
theorem eB1 : SayOk [50, 59] ⟨44, 0, 0, 0, 0, []⟩ := ⟨by decide, by decide +kernel⟩
theorem eB2 : SayOk [52, 59, 48, 48, 55, 59, 114, 103, 98, 58, 70, 70, 47, 48, 48, 47, 56, 48] ⟨45, 7, 0, 2, 16711808, []⟩ := ⟨by decide, by decide +kernel⟩
theorem eB3 : NoneOk [52, 59, 50, 53, 54, 59, 114, 103, 98, 58, 48, 48, 47, 48, 48, 47, 48, 48] := ⟨by decide, by decide +kernel⟩
theorem eB4 : NoneOk [52, 59, 59, 114, 103, 98, 58, 48, 48, 47, 48, 48, 47, 48, 48] := ⟨by decide, by decide +kernel⟩
theorem eC0 : SayOk [53, 50, 59, 99, 59, 90, 103] ⟨46, 0, 0, 0, 0, [102]⟩ := ⟨by decide, by decide +kernel⟩
theorem eC1 : NoneOk [53, 50, 59, 112, 59, 90, 103] := ⟨by decide, by decide +kernel⟩
theorem eC2 : NoneOk [49, 59, 120] := ⟨by decide, by decide +kernel⟩
theorem eC3 : NoneOk [48] := ⟨by decide, by decide +kernel⟩
theorem eD0 : NoPr ⟨44, 0, 0, 0, 0, [255]⟩ := ⟨by decide, by decide +kernel⟩
theorem eD1 : NoPr ⟨45, 0, 0, 1, 1, []⟩ := ⟨by decide, by decide +kernel⟩
set_option maxHeartbeats 40000000 in
theorem worksLaw (w0 : World) (hP : ParseOk w0) (hQ : PrintOk w0) : WorksOk w0 := by
  intro S R h
  have s1 := sSays w0 hP
  have s2 := sNone w0 hP
  have s3 := sTold w0 hP hQ
  have s4 := sNoPr w0 hQ
  have s5 := sTitled w0
  have s6 := sClip w0
  have s7 := sPalette w0
  clear hP hQ
  have a0 := eA0
  have a1 := eA1
  have a2 := eA2
  have b0 := eB0
  have b1 := eB1
  have b2 := eB2
  have b3 := eB3
  have b4 := eB4
  have c0 := eC0
  have c1 := eC1
  have c2 := eC2
  have c3 := eC3
  have d0 := eD0
  have d1 := eD1
  refine enter Tryz.func12 rfl (by decide +kernel) (by rw [Tryz.ntmps12]; simp) (by rw [Tryz.ntmps12]; decide) (fun hO => ?_); rw [Tryz.ntmps12]
  repeat' first | refine st ?_ | (refine ca ?_; first | (apply s1; (· simp only [go_sem, *]; try rfl)) | (apply s2; (· simp only [go_sem, *]; try rfl)) | (apply s3; (· simp only [go_sem, *]; try rfl)) | (apply s4; (· simp only [go_sem, *]; try rfl)) | apply s5 | apply s6 | apply s7) | (refine br ?_ ?_; all_goals (intro hb; try simp only [Bool.not_eq_true', Bool.not_eq_false'] at hb)) | fail
  (apply f_ret; iterate 7 (· simp only [go_sem, *, Tryz.results12]; try rfl))
  exact h
end Go.Proofs.YtfnnjkbhmoomjaaGreatDoor
namespace Go.Proofs.YtfnnjkbhmoomjaaGreatDoor
open Go Go.Fen
set_option linter.unusedSimpArgs false
set_option linter.unusedVariables false
attribute [local irreducible] RunX WP ACall AnyP OpA ProtL afterCall afterOp
set_option maxRecDepth 8000
theorem putN_lead (c i : Nat) (h : (putN c)[i]? = some 195) : ∃ y, (putN c)[i + 1]? = some y ∧ 128 ≤ y ∧ y < 192 := by
  unfold putN at h ⊢
  split at h
  · match i with
    | 0 => simp at h; omega
    | i + 1 => simp at h
  · next h1 =>
    rw [if_neg h1]
    split at h
    · next h2 =>
      rw [if_pos h2]
      match i with
      | 0 => exact ⟨_, rfl, by omega, by omega⟩
      | 1 => simp at h; omega
      | i + 2 => simp at h
    · next h2 =>
      split at h
      · match i with
        | 0 => simp at h; omega
        | 1 => simp at h; omega
        | 2 => simp at h; omega
        | i + 3 => simp at h
      · match i with
        | 0 => simp at h; omega
        | 1 => simp at h; omega
        | 2 => simp at h; omega
        | 3 => simp at h; omega
        | i + 4 => simp at h
theorem putN_head (c : Nat) : ∃ y r, putN c = y :: r ∧ (y < 128 ∨ 192 ≤ y) := by
  unfold putN
  split
  · exact ⟨_, _, rfl, .inl (by assumption)⟩
  · split
    · exact ⟨_, _, rfl, .inr (by omega)⟩
    · split
      · exact ⟨_, _, rfl, .inr (by omega)⟩
      · exact ⟨_, _, rfl, .inr (by omega)⟩
theorem textU_lead : ∀ (l : List Nat) (i : Nat), (textU l)[i]? = some 195 → ∃ y, (textU l)[i + 1]? = some y ∧ 128 ≤ y ∧ y < 192
  | [], i, h => by simp [textU] at h
  | c :: l, i, h => by
    have e : textU (c :: l) = putU c ++ textU l := by simp [textU]
    rw [e] at h ⊢
    by_cases hi : i < (putU c).length
    · rw [List.getElem?_append_left hi] at h
      obtain ⟨y, h1, h2⟩ := putN_lead _ i h
      refine ⟨y, ?_, h2⟩
      have hi2 : i + 1 < (putU c).length := (List.getElem?_eq_some_iff.1 h1).1
      rw [List.getElem?_append_left hi2]
      exact h1
    · rw [List.getElem?_append_right (by omega)] at h
      obtain ⟨y, h1, h2⟩ := textU_lead l _ h
      refine ⟨y, ?_, h2⟩
      rw [List.getElem?_append_right (by omega), ← h1]
      congr 1
      omega
theorem textU_head : ∀ (l : List Nat) (y : Nat), (textU l)[0]? = some y → y < 128 ∨ 192 ≤ y
  | [], y, h => by simp [textU] at h
  | c :: l, y, h => by
    have e : textU (c :: l) = putU c ++ textU l := by simp [textU]
    obtain ⟨z, r, h1, h2⟩ := putN_head (if okU c then c else 65533)
    rw [e] at h
    unfold putU at h
    rw [h1] at h
    simp at h
    omega
theorem name_text {s : List UInt8} (h : nameT s = true) : s.map UInt8.toNat = textU (codesB s) := by
  unfold nameT at h
  rw [Bool.and_eq_true, decide_eq_true_eq] at h
  rw [← textS_map, h.2]
theorem name_cut (p r : List UInt8) (hr : ∀ y, r[0]? = some y → y.toNat < 128 ∨ 192 ≤ y.toNat) : nameT ((p ++ [195]) ++ r) = false := by
  cases hn : nameT ((p ++ [195]) ++ r) with
  | false => rfl
  | true =>
    have ht := name_text hn
    have h1 : (((p ++ [195]) ++ r).map UInt8.toNat)[p.length]? = some 195 := by
      rw [List.getElem?_map, List.getElem?_append_left (by simp), List.getElem?_append_right (by omega)]
      simp
    rw [ht] at h1
    obtain ⟨y, h2, h3, h4⟩ := textU_lead _ _ h1
    rw [← ht, List.getElem?_map, List.getElem?_append_right (by simp)] at h2
    simp at h2
    obtain ⟨z, hz, rfl⟩ := h2
    have := hr z (by simpa using hz)
    omega
theorem name_ctl (p r : List UInt8) (x : UInt8) (hx : x.toNat < 32) : nameT ((p ++ [x]) ++ r) = false := by
  cases hn : nameT ((p ++ [x]) ++ r) with
  | false => rfl
  | true =>
    have := (nameT_clean hn x (by simp)).1
    omega
theorem title_no {t : List UInt8} (h : nameT t = false) : titleB t = false := by unfold titleB; rw [h, Bool.and_false]
theorem parse_title (d : UInt8) (hd : d = 48 ∨ d = 50) (t : List UInt8) : parseO (d :: 59 :: t) = if 512 < t.length + 2 then none else if titleB t then some ⟨44, 0, 0, 0, 0, t⟩ else none := by
  unfold parseO
  have hc : cutO (d :: 59 :: t) = some ([d], t) := by
    refine cut_app (w := [d]) t ?_
    intro b hb
    rw [List.mem_singleton.1 hb]
    rcases hd with rfl | rfl <;> decide
  simp only [List.length_cons]
  rw [hc]
  simp only
  have hk : [d] = [48] ∨ [d] = [50] := by rcases hd with rfl | rfl <;> simp
  rw [if_pos hk]
theorem none_title (d : UInt8) (hd : d = 48 ∨ d = 50) {t : List UInt8} (hl : t.length ≤ 8000) (h : nameT t = false ∨ 510 < t.length) : NoneOk (d :: 59 :: t) := by
  refine ⟨by simp only [List.length_cons]; omega, ?_⟩
  rw [parse_title d hd]
  rcases h with h | h
  · rw [title_no h]
    split <;> rfl
  · rw [if_pos (by omega)]
theorem say_title (d : UInt8) (hd : d = 48 ∨ d = 50) {t : List UInt8} (h : titleB t = true) (hl : t.length ≤ 510) : SayOk (d :: 59 :: t) ⟨44, 0, 0, 0, 0, t⟩ := by
  refine ⟨by simp only [List.length_cons]; omega, ?_⟩
  rw [parse_title d hd, if_neg (by omega), if_pos h]
theorem titleS_head (l : List Int) (y : UInt8) (h : (titleS l)[0]? = some y) : y.toNat < 128 ∨ 192 ≤ y.toNat := by
  unfold titleS at h
  refine textU_head (titleC l) y.toNat ?_
  rw [← textS_map, List.getElem?_map, h]
  rfl
end Go.Proofs.YtfnnjkbhmoomjaaGreatDoor
namespace Go.Proofs.YtfnnjkbhmoomjaaGreatDoor
open Go Go.Fen
set_option linter.unusedSimpArgs false
set_option linter.unusedVariables false
attribute [local irreducible] RunX WP ACall AnyP OpA ProtL afterCall afterOp
set_option maxRecDepth 8000
set_option maxHeartbeats 40000000 in
theorem titlesLaw (w0 : World) (hP : ParseOk w0) (hQ : PrintOk w0) (S : List Blk) (l : List Int) (c at' : Nat) (hat : at' < 65536) (R : AOut → List Blk → Prop) (h : R (.ret (.bool true)) S) :
    ACall Tryz.prog w0 7 [.sval false (l.map CoI), .int .u8 c, .int .u16 at'] S R := by
  have s1 := sSays w0 hP
  have s2 := sNone w0 hP
  have s5 := sTitled w0
  have hwo := worksLaw w0 hP hQ
  unfold WorksOk at hwo
  have hti := fun S' => lTitle w0 S' l
  obtain ⟨ht1, ht2, _⟩ := title_ok l
  have hhd := titleS_head l
  generalize titleS l = s at *
  have g0 := say_title 48 (.inl rfl) ht1 ht2
  have g1 := say_title 50 (.inr rfl) ht1 ht2
  have q1 : 2 + s.length ≤ 9223372036854775807 := by omega
  have Ht := Lib.hid (And.intro hat ht2)
  have Hhd := Lib.hid hhd
  have H := Lib.hid h
  have S2 := Lib.hid s2
  clear hhd ht1 ht2 h hP hQ s2 hat
  refine enter Tryz.func7 rfl (by decide +kernel) (by rw [Tryz.ntmps7]; simp) (by rw [Tryz.ntmps7]; decide) (fun hO => ?_); rw [Tryz.ntmps7]
  repeat' first | refine st ?_ | (refine ca ?_; first | apply hwo | apply hti | (apply s1; (· simp only [go_sem, *]; try rfl)) | apply s5) | (refine br ?_ ?_; all_goals (intro hb; try simp only [Bool.not_eq_true', Bool.not_eq_false'] at hb)) | fail
  refine x_ind (fun (p : Nat × Nat) env S' => p.1 ≤ s.length ∧ p.2 ≤ s.length ∧ (∀ y, s[p.2]? = some y → y.toNat < 128 ∨ 192 ≤ y.toNat) ∧ env 1000000 = .dfr [] ∧ env 1 = .int .u8 c ∧ env 2 = .int .u16 at' ∧ env 7 = .str s ∧ env 8 = .int .i64 (p.2 : Int) ∧ env 9 = .int .i64 (p.1 : Int) ∧ S' = S) (fun p => s.length - p.1) (0, 0) ?_ ?_
  · exact ⟨Nat.zero_le _, Nat.zero_le _, Hhd.out, by (simp only [go_sem, *]; try rfl), by (simp only [go_sem, *]; try rfl), by (simp only [go_sem, *]; try rfl), by (simp only [go_sem, *]; try rfl), by (simp only [go_sem, *]; try rfl), by (simp only [go_sem, *]; try rfl), by (simp only [go_sem, *]; try rfl)⟩
  · rintro ⟨i, k⟩ env S' ⟨hi, hk, hy, e0, f1, f2, f7, f8, f9, rfl⟩ IH
    simp only at hi hk hy f8 f9
    have HI := Lib.hid IH
    obtain ⟨hat, ht2⟩ := Ht.out
    clear IH hwo hti g0 g1 s1 s5
    have ha1 : IntKind.i64.wrap (at' : Int) = (at' : Int) := IntWalk.i64_in _ (by omega)
    have ha2 : (at' : Int).tmod 600 = ((at' % 600 : Nat) : Int) := tmK at' 600
    by_cases hgo : i < s.length ∧ i ≤ at' % 600
    · obtain ⟨hlt, hle⟩ := hgo
      obtain ⟨b, hx⟩ : ∃ b, s[i]? = some b := ⟨_, List.getElem?_eq_getElem hlt⟩
      have h1 : decide ((i : Int) < (s.length : Int)) = true := by simpa using hlt
      have h2 : decide ((i : Int) ≤ ((at' % 600 : Nat) : Int)) = true := by simp; omega
      have hw : IntKind.i64.wrap ((i : Int) + 1) = (i : Int) + 1 := IntWalk.i64_in _ (by omega)
      by_cases hb : b.toNat < 128 ∨ 192 ≤ b.toNat
      · have Hf := Lib.hid (And.intro hlt (show ∀ y, s[i]? = some y → y.toNat < 128 ∨ 192 ≤ y.toNat from fun y hy => by rw [hx] at hy; cases hy; exact hb))
        by_cases hb1 : b.toNat < 128
        · have d1 : decide ((b.toNat : Int) < 128) = true := by simp; omega
          clear hlt hle hi hk hy hb hb1 ht2 hat
          repeat' first | refine st ?_ | (refine br ?_ ?_; all_goals (intro hb; try simp only [Bool.not_eq_true', Bool.not_eq_false'] at hb)) | fail
          obtain ⟨hlt, hy2⟩ := Hf.out
          refine HI.out (i + 1, i) _ _ (by simp only; omega) ⟨by simp only; omega, by simp only; omega, hy2, ?_, ?_, ?_, ?_, ?_, ?_, ?_⟩
          all_goals (simp only [go_sem, *]; try rfl)
        · have d1 : decide ((b.toNat : Int) < 128) = false := by simp; omega
          have d2 : decide ((192 : Int) ≤ (b.toNat : Int)) = true := by simp; omega
          clear hlt hle hi hk hy hb hb1 ht2 hat
          repeat' first | refine st ?_ | (refine br ?_ ?_; all_goals (intro hb; try simp only [Bool.not_eq_true', Bool.not_eq_false'] at hb)) | fail
          obtain ⟨hlt, hy2⟩ := Hf.out
          refine HI.out (i + 1, i) _ _ (by simp only; omega) ⟨by simp only; omega, by simp only; omega, hy2, ?_, ?_, ?_, ?_, ?_, ?_, ?_⟩
          all_goals (simp only [go_sem, *]; try rfl)
      · have d1 : decide ((b.toNat : Int) < 128) = false := by simp; omega
        have d2 : decide ((192 : Int) ≤ (b.toNat : Int)) = false := by simp; omega
        have Hf := Lib.hid (And.intro hlt (And.intro hk hy))
        clear hlt hle hi hk hy hb ht2 hat
        repeat' first | refine st ?_ | (refine br ?_ ?_; all_goals (intro hb; try simp only [Bool.not_eq_true', Bool.not_eq_false'] at hb)) | fail
        obtain ⟨hlt, hk, hy2⟩ := Hf.out
        refine HI.out (i + 1, k) _ _ (by simp only; omega) ⟨by simp only; omega, hk, hy2, ?_, ?_, ?_, ?_, ?_, ?_, ?_⟩
        all_goals (simp only [go_sem, *]; try rfl)
    · have hh := H.out
      have s2 := S2.out
      obtain ⟨p, r, hp, hr, hsp⟩ : ∃ p r, List.take k s = p ∧ List.drop k s = r ∧ s = p ++ r := ⟨_, _, rfl, rfl, (List.take_append_drop k s).symm⟩
      have hpl : p.length + r.length = s.length := by rw [hsp]; simp
      have hkl : (k : Int) ≤ (s.length : Int) := by omega
      have hts : List.take s.length s = s := List.take_length
      have hcm : (c : Int).tmod 32 = ((c % 32 : Nat) : Int) := tmK c 32
      have hx32 : (UInt8.ofNat (c % 32)).toNat < 32 := by simp; omega
      have hr0 : ∀ y, r[0]? = some y → y.toNat < 128 ∨ 192 ≤ y.toNat := by
        intro y e
        refine hy y ?_
        rw [← hr, List.getElem?_drop] at e
        simpa using e
      generalize hX : UInt8.ofNat (c % 32) = x at hx32
      have n1 : NoneOk (48 :: 59 :: ((p ++ [x]) ++ r)) := none_title 48 (.inl rfl) (by simp; omega) (.inl (name_ctl p r x hx32))
      have n2 : NoneOk (50 :: 59 :: ((p ++ [195]) ++ r)) := none_title 50 (.inr rfl) (by simp; omega) (.inl (name_cut p r hr0))
      obtain ⟨x1, hx1, l1⟩ : ∃ x1 : List UInt8, List.replicate 511 120 = x1 ∧ x1.length = 511 := ⟨_, rfl, by simp⟩
      have n3 : NoneOk (50 :: 59 :: (s ++ x1)) := none_title 50 (.inr rfl) (by simp; omega) (.inr (by simp; omega))
      have p1 : ∀ S' (R : AOut → List Blk → Prop), R (.ret (.str x1)) S' → ACall Tryz.prog w0 19 [.str [120], .int .i64 511] S' R := fun S' R h => repeatS w0 S' [120] 511 (by decide) (by decide) R (by rw [repeat_one, hx1]; exact h)
      have m1 : p.length + 1 ≤ 9223372036854775807 := by omega
      have m2 : p.length + 1 + r.length ≤ 9223372036854775807 := by omega
      have m3 : 2 + (p.length + 1 + r.length) ≤ 9223372036854775807 := by omega
      have m4 : s.length + 1 + 1 + x1.length ≤ 9223372036854775807 := by omega
      have q1 : 2 + s.length ≤ 9223372036854775807 := by omega
      by_cases hlt : i < s.length
      · have h1 : decide ((i : Int) < (s.length : Int)) = true := by simpa using hlt
        have h2 : decide ((i : Int) ≤ ((at' % 600 : Nat) : Int)) = false := by simp; omega
        clear hgo hi hk hy ht2 hat hlt hsp hpl hx32 hr0 hx1 l1 HI
        repeat' first | apply x_seq | apply x_skip | apply x_block | apply x_exit | apply x_ret | apply x_ops_nil | apply p_blk | apply p_exit_it | apply p_exit_hit | apply p_ret_it | apply p_ret_blk | apply p_panic_it | apply p_panic_blk | apply p_end | (apply p_exit_miss; (· rfl)) | (apply x_region; simp only [List.toList_toArray]) | (apply x_step0; (· rfl); (· simp only [go_sem, *, List.length_append]; try rfl); (· rfl); simp only [putA]) | (apply ac_ret; simp only [putA]) | apply ac_panic | (apply x_callA []; (· simp only [go_sem, *, List.length_append]; try rfl); (· rfl); (· simp only [go_sem, *, List.length_append]; try rfl); (· rfl); (iterate 2 (· simp only [go_sem, *, List.length_append]; try rfl)); (first | (apply s2; (· simp only [go_sem, *, List.length_append]; try rfl)) | apply p1); simp only [afterCall, putA]) | (apply x_panic; (· simp only [go_sem, *, List.length_append]; try rfl); (· rfl); (· simp only [go_sem, *, List.length_append]; try rfl)) | (apply x_step; (iterate 2 (· simp only [go_sem, *, List.length_append]; try rfl)); (· rfl); simp only [putA]) | (apply x_unwanted; (· simp only [go_sem, *, List.length_append]; try rfl); (· rfl); simp only [putA]) | (apply x_condT; (· simp only [go_sem, *, List.length_append]; try rfl)) | (apply x_condF; (· simp only [go_sem, *, List.length_append]; try rfl)) | (apply x_guardS; (· rfl); (fail_if_success (focus (show _ = some true; (· simp only [go_sem, *, List.length_append]; try rfl)))); (· simp only [go_sem, *, List.length_append]; try rfl); all_goals (intro hb; try simp only [Bool.not_eq_true', Bool.not_eq_false'] at hb)) | (apply x_condS; (· simp only [go_sem, *, List.length_append]; try rfl); all_goals (intro hb; try simp only [Bool.not_eq_true', Bool.not_eq_false'] at hb)) | (apply d_draw; (· exact mixed); (· simp only [List.size_toArray, List.length_cons, List.length_nil, Nat.reduceAdd]; try rfl)) | (apply d_done; (· decide +kernel)) | (apply a_0; (repeat (apply a_s; (· decide +kernel))); apply a_take; (· decide +kernel); (· first | exact qds_FPost | exact qds_RPost | exact qds_YB | assumption); (· rfl); (iterate 3 (· simp only [go_sem, *, List.length_append]; try rfl)); (· rfl); (· simp only [go_sem, *, List.length_append]; try rfl); simp only [putA]) | (apply a_0; (repeat (apply a_s; (· decide +kernel))); apply a_unw; (· decide +kernel); (· first | exact qds_FPost | exact qds_RPost | exact qds_YB | assumption); (· rfl); (iterate 2 (· simp only [go_sem, *, List.length_append]; try rfl)); (· rfl); simp only [putA]) | (apply a_0; (repeat (apply a_o; (· decide +kernel))); apply a_one; (· decide +kernel)) | (apply o_step; (iterate 3 (· simp only [go_sem, *, List.length_append]; try rfl)); (· rfl); simp only [putA]) | (apply o_unw; (iterate 2 (· simp only [go_sem, *, List.length_append]; try rfl)); (· rfl); simp only [putA]) | apply pr_nil | apply pr_same | apply pr_go | apply pl_nil | apply pl_none | (apply pl_skip; (· decide +kernel)) | (apply pl_one; (· simp only [go_sem, *, List.length_append]; try rfl)) | (apply o_call []; (iterate 2 (· simp only [go_sem, *, List.length_append]; try rfl)); (· rfl); (· simp only [go_sem, *, List.length_append]; try rfl); (· rfl); (iterate 2 (· simp only [go_sem, *, List.length_append]; try rfl)); (first | (apply s2; (· simp only [go_sem, *, List.length_append]; try rfl)) | apply p1); simp only [afterOp, putA]) | fail
        all_goals (apply f_ret; iterate 7 (· simp only [go_sem, *, Tryz.results7]; try rfl))
        all_goals exact hh
      · have h1 : decide ((i : Int) < (s.length : Int)) = false := by simpa using hlt
        clear hgo hi hk hy ht2 hat hlt hsp hpl hx32 hr0 hx1 l1 HI
        repeat' first | apply x_seq | apply x_skip | apply x_block | apply x_exit | apply x_ret | apply x_ops_nil | apply p_blk | apply p_exit_it | apply p_exit_hit | apply p_ret_it | apply p_ret_blk | apply p_panic_it | apply p_panic_blk | apply p_end | (apply p_exit_miss; (· rfl)) | (apply x_region; simp only [List.toList_toArray]) | (apply x_step0; (· rfl); (· simp only [go_sem, *, List.length_append]; try rfl); (· rfl); simp only [putA]) | (apply ac_ret; simp only [putA]) | apply ac_panic | (apply x_callA []; (· simp only [go_sem, *, List.length_append]; try rfl); (· rfl); (· simp only [go_sem, *, List.length_append]; try rfl); (· rfl); (iterate 2 (· simp only [go_sem, *, List.length_append]; try rfl)); (first | (apply s2; (· simp only [go_sem, *, List.length_append]; try rfl)) | apply p1); simp only [afterCall, putA]) | (apply x_panic; (· simp only [go_sem, *, List.length_append]; try rfl); (· rfl); (· simp only [go_sem, *, List.length_append]; try rfl)) | (apply x_step; (iterate 2 (· simp only [go_sem, *, List.length_append]; try rfl)); (· rfl); simp only [putA]) | (apply x_unwanted; (· simp only [go_sem, *, List.length_append]; try rfl); (· rfl); simp only [putA]) | (apply x_condT; (· simp only [go_sem, *, List.length_append]; try rfl)) | (apply x_condF; (· simp only [go_sem, *, List.length_append]; try rfl)) | (apply x_guardS; (· rfl); (fail_if_success (focus (show _ = some true; (· simp only [go_sem, *, List.length_append]; try rfl)))); (· simp only [go_sem, *, List.length_append]; try rfl); all_goals (intro hb; try simp only [Bool.not_eq_true', Bool.not_eq_false'] at hb)) | (apply x_condS; (· simp only [go_sem, *, List.length_append]; try rfl); all_goals (intro hb; try simp only [Bool.not_eq_true', Bool.not_eq_false'] at hb)) | (apply d_draw; (· exact mixed); (· simp only [List.size_toArray, List.length_cons, List.length_nil, Nat.reduceAdd]; try rfl)) | (apply d_done; (· decide +kernel)) | (apply a_0; (repeat (apply a_s; (· decide +kernel))); apply a_take; (· decide +kernel); (· first | exact qds_FPost | exact qds_RPost | exact qds_YB | assumption); (· rfl); (iterate 3 (· simp only [go_sem, *, List.length_append]; try rfl)); (· rfl); (· simp only [go_sem, *, List.length_append]; try rfl); simp only [putA]) | (apply a_0; (repeat (apply a_s; (· decide +kernel))); apply a_unw; (· decide +kernel); (· first | exact qds_FPost | exact qds_RPost | exact qds_YB | assumption); (· rfl); (iterate 2 (· simp only [go_sem, *, List.length_append]; try rfl)); (· rfl); simp only [putA]) | (apply a_0; (repeat (apply a_o; (· decide +kernel))); apply a_one; (· decide +kernel)) | (apply o_step; (iterate 3 (· simp only [go_sem, *, List.length_append]; try rfl)); (· rfl); simp only [putA]) | (apply o_unw; (iterate 2 (· simp only [go_sem, *, List.length_append]; try rfl)); (· rfl); simp only [putA]) | apply pr_nil | apply pr_same | apply pr_go | apply pl_nil | apply pl_none | (apply pl_skip; (· decide +kernel)) | (apply pl_one; (· simp only [go_sem, *, List.length_append]; try rfl)) | (apply o_call []; (iterate 2 (· simp only [go_sem, *, List.length_append]; try rfl)); (· rfl); (· simp only [go_sem, *, List.length_append]; try rfl); (· rfl); (iterate 2 (· simp only [go_sem, *, List.length_append]; try rfl)); (first | (apply s2; (· simp only [go_sem, *, List.length_append]; try rfl)) | apply p1); simp only [afterOp, putA]) | fail
        all_goals (apply f_ret; iterate 7 (· simp only [go_sem, *, Tryz.results7]; try rfl))
        all_goals exact hh
end Go.Proofs.YtfnnjkbhmoomjaaGreatDoor
namespace Go.Proofs.YtfnnjkbhmoomjaaGreatDoor
open Go Go.Fen
set_option linter.unusedSimpArgs false
set_option linter.unusedVariables false
attribute [local irreducible] RunX WP ACall AnyP OpA ProtL afterCall afterOp
set_option maxRecDepth 8000
namespace OscTitles
theorem contract (H : Type) (enc : TypeId × Value → H) (W : World) (base : Nat) (args : Array Value) (ds gs : List (DataW H)) (before : List MemPlace)
    (hval : ∀ (j : Nat) t v, Tryz.f7.params[j]? = some t → args[j]? = some v → Value.okWide Tryz.prog W .any base t v)
    (hW : DataW.Whole enc Tryz.prog Tryz.f7.params.toList Rows.oscTitlesSpec.vars false W args.toList ds gs before) (hL : laidMetH Tryz.prog seatLaid W) :
    Calls Tryz.prog 7 args W fun e W' => ∃ v, e = .returned v ∧ Rows.oscTitlesSpec.post enc Tryz.prog Tryz.f7 false true false false W args v W' := by
  refine law_close (n := 20) (tb := 4) [(.sl (.int .i64)), (.int .u8), (.int .u16)] laidOut ?_ (by rw [Tryz.params7]; kernel_rfl) (by kernel_rfl) un_4 rfl ?_ hW hval ?_
  · rw [Tryz.params7]
    have : ([27, 5, 37].all fun t => Tryz.prog.readableRec t && decide (t < Tryz.prog.types.size)) = true := by kernel_rfl
    intro t ht
    simpa using List.all_eq_true.1 this t (by simpa using ht)
  · intro h
    rw [Tryz.params7] at h
    match ds, h with
    | [d1, d2, d3], _ => rfl
  · intro avs ha
    obtain ⟨y1, r1, h1, e1, ha1⟩ := ArgsH.cons' ha
    obtain ⟨y2, r2, h2, e2, ha2⟩ := ArgsH.cons' ha1
    obtain ⟨y3, r3, h3, e3, ha3⟩ := ArgsH.cons' ha2
    have e4 := ArgsH.nil' ha3
    rw [e1, e2, e3, e4]
    obtain ⟨els, rfl, _, he⟩ := h1
    obtain ⟨l, hl⟩ := els_int els he
    obtain ⟨c, rfl, hc⟩ := h2
    obtain ⟨n, rfl, hn⟩ := h3
    have hm := wf_max hn
    have hm2 : IntKind.u16.max = 65535 := by decide
    have hc2 := wf_nat hc rfl
    have hn2 := wf_nat hn rfl
    have e : [(Sk.sl (.int .i64)).mk [.sval false (els.map (Sk.int .i64).mk)], (Sk.int .u8).mk [.int .u8 c], (Sk.int .u16).mk [.int .u16 n]] = [.sval false (l.map CoI), .int .u8 (c.toNat : Nat), .int .u16 (n.toNat : Nat)] := by
      rw [hl, hc2, hn2]; rfl
    rw [e]
    exact titlesLaw W (parse_of hL) (print_of hL) [] l c.toNat n.toNat (by omega) _ rfl
def wit : Array Value := #[.slice none 0 0, .int .u8 0, .int .u16 0]
set_option maxRecDepth 100000 in
theorem lifted (os : Os) (started : os.Started) (H : Type) (enc : TypeId × Value → H) :
    ReturnsInHanded {} Tryz.checked os 7 .any (fun w args => (Rows.oscTitlesSpec.pre enc Tryz.prog Tryz.f7 Rows.oscTitlesRow.domain false w args ∧ laidMetH Tryz.prog seatLaid w) ∧ sizedMet enc Tryz.prog Tryz.f7 (OpenSpec.ofChange Rows.oscTitlesSpec) false w args)
      (Rows.oscTitlesSpec.post enc Tryz.prog Tryz.f7 false true false false) := by
  refine returnsInHanded_of_change_and (C := Tryz.checked) (X := fun w _ => laidMetH Tryz.prog seatLaid w) (fun _ _ _ hh h => h.of_heap hh) own started (by kernel_rfl) Tryz.func7
    (ChangeSpec.witness_shaped (enc := enc) (C := Tryz.checked) (os := os) (X := fun w _ => laidMetH Tryz.prog seatLaid w) false (World.laidAll Tryz.prog os seatLaid) wit 8 (World.laidAll_os _ _ _)
      (World.shaped_of_ZipB (by kernel_rfl) (by kernel_rfl)) (by kernel_rfl) (by kernel_rfl) (by kernel_rfl)
      (by rw [MakeChecks.laidMetH_plain _ _ _ (by kernel_rfl)]; exact laidMet_laidAll _ (by kernel_rfl) (by kernel_rfl))) ?_
  intro W base args ds gs before hval hW _ _ hL _
  exact contract H enc W base args ds gs before hval hW hL
theorem said : Rows.OscTitlesSaid :=
  OpenClaim.holds_of_wide 7 Tryz.f7 rfl rfl rfl rfl rfl rfl rfl ⟨rfl, rfl, rfl, rfl, rfl⟩ rfl rfl rfl rfl rfl (by kernel_rfl) Tryz.func7 (by kernel_rfl)
    (of_decide_eq_true (by kernel_rfl)) (by unfold Func.isWrapper; first | (rw [if_pos (by decide +kernel)]; kernel_rfl) | (rw [if_neg (by decide +kernel)]; exact ⟨rfl, rfl⟩))
    (fun os started H enc _ => lifted os started H enc)
theorem plainF (f : FuncId) (fn : Func) (hf : Tryz.pinned.checked.prog.funcNamed "fenestra/fenestralaw08.OscTitles" = some f) (hfn : Tryz.pinned.checked.prog.funcs[f]? = some fn) :
    true = Tryz.pinned.checked.prog.looks [] ∧ ∀ (j : Nat) t, fn.params[j]? = some t → Tryz.pinned.checked.prog.wantsStandIn t = false := by
  obtain rfl : f = 7 := Option.some.inj ((show Tryz.prog.funcNamed "fenestra/fenestralaw08.OscTitles" = some 7 by kernel_rfl).symm.trans hf) |>.symm
  obtain rfl : fn = Tryz.f7 := (Option.some.inj (Tryz.func7.symm.trans hfn)).symm
  refine ⟨by kernel_rfl, fun j t ht => ?_⟩
  rw [Tryz.params7] at ht
  have hm : t ∈ [27, 5, 37] := by simpa using Array.mem_of_getElem? ht
  have hall : ([27, 5, 37].all fun u => !Tryz.prog.wantsStandIn u) = true := by kernel_rfl
  exact (show Tryz.prog.wantsStandIn t = false by simpa using List.all_eq_true.1 hall t hm)
theorem card : Rows.OscTitlesCardSaid :=
  Claim7.holds_tied_plain_at .later [] _ _ _ _ said (fun _ h => by cases h) (by kernel_rfl) (fun _ h => by cases h) oscTitles_row_tie rfl ⟨rfl, rfl⟩ (by kernel_rfl) rfl plainF (by kernel_rfl)
end OscTitles
end Go.Proofs.YtfnnjkbhmoomjaaGreatDoor
