/- YtfnnjkbhmoomjaaGreatDoorWalk3. Texts of the proof of a law about texts: a layer of abstract values above the worlds, the types, the walks of the functions that the law reaches, the law and its card. Own work of an AI agent. -/
import Derived.Test.YtfnnjkbhmoomjaaGreatDoorWalk1
import Derived.Test.YtfnnjkbhmoomjaaGreatDoorWalk2
import Derived.Test.YtfnnjkbhmoomjaaGreatDoorCore2
set_option linter.all false
set_option linter.unusedVariables false
set_option linter.unusedSimpArgs false
namespace Go.Proofs.YtfnnjkbhmoomjaaGreatDoor
open Go Go.Fen
set_option linter.unusedSimpArgs false
set_option linter.unusedVariables false
attribute [local irreducible] RunX WP ACall AnyP OpA ProtL afterCall afterOp
set_option maxRecDepth 8000
theorem lSays (w0 : World) (hP : ParseOk w0) (S : List Blk) (s : List UInt8) (a : Ac) (hs : s.length ≤ 8192) (he : parseO s = some a) (R : AOut → List Blk → Prop) (h : R (.ret (.bool true)) S) : ACall Tryz.prog w0 15 [.str s, a.av] S R := by
  have hp := fun S' => hP S' s hs
  rw [he] at hp
  unfold parV at hp
  obtain ⟨k, n, m, ck, cn, t⟩ := a
  unfold Ac.av at hp ⊢
  simp only at hp ⊢
  clear he hs hP
  refine enter Tryz.func15 rfl (by decide +kernel) (by rw [Tryz.ntmps15]; simp) (by rw [Tryz.ntmps15]; decide) (fun hO => ?_); rw [Tryz.ntmps15]
  repeat' first | refine st ?_ | (refine ca ?_; first | apply hp) | (refine br ?_ ?_; all_goals (intro hb; try simp only [Bool.not_eq_true', Bool.not_eq_false'] at hb)) | fail
  (apply f_ret; iterate 7 (· simp only [go_sem, *, Tryz.results15]; try rfl))
  exact h
theorem lNone (w0 : World) (hP : ParseOk w0) (S : List Blk) (s : List UInt8) (hs : s.length ≤ 8192) (he : parseO s = none) (R : AOut → List Blk → Prop) (h : R (.ret (.bool true)) S) : ACall Tryz.prog w0 18 [.str s] S R := by
  have hp := fun S' => hP S' s hs
  rw [he] at hp
  unfold parV zeroA Ac.av at hp
  simp only at hp
  clear he hs hP
  refine enter Tryz.func18 rfl (by decide +kernel) (by rw [Tryz.ntmps18]; simp) (by rw [Tryz.ntmps18]; decide) (fun hO => ?_); rw [Tryz.ntmps18]
  repeat' first | refine st ?_ | (refine ca ?_; first | apply hp) | (refine br ?_ ?_; all_goals (intro hb; try simp only [Bool.not_eq_true', Bool.not_eq_false'] at hb)) | fail
  (apply f_ret; iterate 7 (· simp only [go_sem, *, Tryz.results18]; try rfl))
  exact h
theorem lTold (w0 : World) (hP : ParseOk w0) (hQ : PrintOk w0) (S : List Blk) (a : Ac) (s : List UInt8) (ha : a.text.length ≤ 10000) (he : printO a = some s) (R : AOut → List Blk → Prop) (h : R (.ret (.bool true)) S) : ACall Tryz.prog w0 21 [a.av, .str s] S R := by
  have hq := fun S' => hQ S' a ha
  obtain ⟨h1, h2, h3, _⟩ := parse_print he
  have hy := fun S' => lSays w0 hP S' s a (by omega) h1
  rw [he] at hq
  unfold printV at hq
  obtain ⟨k, n, m, ck, cn, t⟩ := a
  unfold Ac.av at hq hy ⊢
  simp only at hq hy ⊢
  clear he ha hP hQ h1 h2 h3
  refine enter Tryz.func21 rfl (by decide +kernel) (by rw [Tryz.ntmps21]; simp) (by rw [Tryz.ntmps21]; decide) (fun hO => ?_); rw [Tryz.ntmps21]
  repeat' first | refine st ?_ | (refine ca ?_; first | apply hq | apply hy) | (refine br ?_ ?_; all_goals (intro hb; try simp only [Bool.not_eq_true', Bool.not_eq_false'] at hb)) | fail
  (apply f_ret; iterate 7 (· simp only [go_sem, *, Tryz.results21]; try rfl))
  exact h
end Go.Proofs.YtfnnjkbhmoomjaaGreatDoor
namespace Go.Proofs.YtfnnjkbhmoomjaaGreatDoor
open Go Go.Fen
set_option linter.unusedSimpArgs false
set_option linter.unusedVariables false
attribute [local irreducible] RunX WP ACall AnyP OpA ProtL afterCall afterOp
set_option maxRecDepth 8000
def WorksOk (w0 : World) : Prop := ∀ (S : List Blk) (R : AOut → List Blk → Prop), R (.ret (.bool true)) S → ACall Tryz.prog w0 12 [] S R
theorem draftA_text (w n rgb : Nat) (codes : List Int) (clip : List UInt8) : (draftA w n rgb codes clip).text.length ≤ 10000 := by
  unfold draftA
  split
  · have := (title_ok codes).2.1; simp only; omega
  · split
    · simp
    · simp; omega
end Go.Proofs.YtfnnjkbhmoomjaaGreatDoor
namespace Go.Proofs.YtfnnjkbhmoomjaaGreatDoor
open Go Go.Fen
set_option linter.unusedSimpArgs false
set_option linter.unusedVariables false
attribute [local irreducible] RunX WP ACall AnyP OpA ProtL afterCall afterOp
set_option maxRecDepth 8000
def SayOk (s : List UInt8) (a : Ac) : Prop := s.length ≤ 8192 ∧ parseO s = some a
def NoneOk (s : List UInt8) : Prop := s.length ≤ 8192 ∧ parseO s = none
def ToldOk (a : Ac) (s : List UInt8) : Prop := a.text.length ≤ 10000 ∧ printO a = some s
def NoPr (a : Ac) : Prop := a.text.length ≤ 10000 ∧ printO a = none
theorem sSays (w0 : World) (hP : ParseOk w0) (S : List Blk) (s : List UInt8) (k n m ck cn : Int) (t : List UInt8) (R : AOut → List Blk → Prop) (hs : SayOk s ⟨k, n, m, ck, cn, t⟩) (h : R (.ret (.bool true)) S) : ACall Tryz.prog w0 15 [.str s, .agg [.int .i64 k, .int .i64 n, .int .i64 m, .int .i64 ck, .int .i64 cn, .str t]] S R := lSays w0 hP S s _ hs.1 hs.2 R h
theorem sNone (w0 : World) (hP : ParseOk w0) (S : List Blk) (s : List UInt8) (R : AOut → List Blk → Prop) (hs : NoneOk s) (h : R (.ret (.bool true)) S) : ACall Tryz.prog w0 18 [.str s] S R := lNone w0 hP S s hs.1 hs.2 R h
theorem sTold (w0 : World) (hP : ParseOk w0) (hQ : PrintOk w0) (S : List Blk) (k n m ck cn : Int) (t s : List UInt8) (R : AOut → List Blk → Prop) (hs : ToldOk ⟨k, n, m, ck, cn, t⟩ s) (h : R (.ret (.bool true)) S) : ACall Tryz.prog w0 21 [.agg [.int .i64 k, .int .i64 n, .int .i64 m, .int .i64 ck, .int .i64 cn, .str t], .str s] S R := lTold w0 hP hQ S _ s hs.1 hs.2 R h
theorem sNoPr (w0 : World) (hQ : PrintOk w0) (S : List Blk) (k n m ck cn : Int) (t : List UInt8) (R : AOut → List Blk → Prop) (hs : NoPr ⟨k, n, m, ck, cn, t⟩) (h : R (.ret (.tup [.str [], .int .i64 2])) S) : ACall Tryz.prog w0 10 [.agg [.int .i64 k, .int .i64 n, .int .i64 m, .int .i64 ck, .int .i64 cn, .str t]] S R := hQ S _ hs.1 R (by rw [hs.2]; exact h)
theorem sTitled (w0 : World) (S : List Blk) (s : List UInt8) (R : AOut → List Blk → Prop) (h : R (.ret (.agg [.int .i64 44, .int .i64 0, .int .i64 0, .int .i64 0, .int .i64 0, .str s])) S) : ACall Tryz.prog w0 17 [.str s] S R := lTitled w0 S s R h
theorem sClip (w0 : World) (S : List Blk) (s : List UInt8) (R : AOut → List Blk → Prop) (h : R (.ret (.agg [.int .i64 46, .int .i64 0, .int .i64 0, .int .i64 0, .int .i64 0, .str s])) S) : ACall Tryz.prog w0 20 [.str s] S R := lClip w0 S s R h
theorem sPalette (w0 : World) (S : List Blk) (n c : Int) (R : AOut → List Blk → Prop) (h : R (.ret (.agg [.int .i64 45, .int .i64 n, .int .i64 0, .int .i64 2, .int .i64 c, .str []])) S) : ACall Tryz.prog w0 22 [.int .i64 n, .int .i64 c] S R := lPalette w0 S n c R h
theorem eA0 : ToldOk ⟨44, 0, 0, 0, 0, [104, 105]⟩ [50, 59, 104, 105] := ⟨by decide, by decide +kernel⟩
theorem eA1 : ToldOk ⟨45, 7, 0, 2, 16711808, []⟩ [52, 59, 55, 59, 114, 103, 98, 58, 102, 102, 47, 48, 48, 47, 56, 48] := ⟨by decide, by decide +kernel⟩
theorem eA2 : ToldOk ⟨46, 0, 0, 0, 0, [102]⟩ [53, 50, 59, 99, 59, 90, 103, 61, 61] := ⟨by decide, by decide +kernel⟩
theorem eB0 : SayOk [48, 59, 97, 59, 98] ⟨44, 0, 0, 0, 0, [97, 59, 98]⟩ := ⟨by decide, by decide +kernel⟩
theorem eB1 : SayOk [50, 59] ⟨44, 0, 0, 0, 0, []⟩ := ⟨by decide, by decide +kernel⟩
theorem eB2 : SayOk [52, 59, 48, 48, 55, 59, 114, 103, 98, 58, 70, 70, 47, 48, 48, 47, 56, 48] ⟨45, 7, 0, 2, 16711808, []⟩ := ⟨by decide, by decide +kernel⟩
theorem eB3 : NoneOk [52, 59, 50, 53, 54, 59, 114, 103, 98, 58, 48, 48, 47, 48, 48, 47, 48, 48] := ⟨by decide, by decide +kernel⟩
theorem eB4 : NoneOk [52, 59, 59, 114, 103, 98, 58, 48, 48, 47, 48, 48, 47, 48, 48] := ⟨by decide, by decide +kernel⟩
theorem eC0 : SayOk [53, 50, 59, 99, 59, 90, 103] ⟨46, 0, 0, 0, 0, [102]⟩ := ⟨by decide, by decide +kernel⟩
theorem eC1 : NoneOk [53, 50, 59, 112, 59, 90, 103] := ⟨by decide, by decide +kernel⟩
theorem eC2 : NoneOk [49, 59, 120] := ⟨by decide, by decide +kernel⟩
theorem eC3 : NoneOk [48] := ⟨by decide, by decide +kernel⟩
theorem eD0 : NoPr ⟨44, 0, 0, 0, 0, [255]⟩ := ⟨by decide, by decide +kernel⟩
theorem eD1 : NoPr ⟨45, 0, 0, 1, 1, []⟩ := ⟨by decide, by decide +kernel⟩
set_option maxHeartbeats 40000000 in
theorem worksLaw (w0 : World) (hP : ParseOk w0) (hQ : PrintOk w0) : WorksOk w0 := by
  intro S R h
  have s1 := sSays w0 hP
  have s2 := sNone w0 hP
  have s3 := sTold w0 hP hQ
  have s4 := sNoPr w0 hQ
  have s5 := sTitled w0
  have s6 := sClip w0
  have s7 := sPalette w0
  clear hP hQ
  have a0 := eA0
  have a1 := eA1
  have a2 := eA2
  have b0 := eB0
  have b1 := eB1
  have b2 := eB2
  have b3 := eB3
  have b4 := eB4
  have c0 := eC0
  have c1 := eC1
  have c2 := eC2
  have c3 := eC3
  have d0 := eD0
  have d1 := eD1
  refine enter Tryz.func12 rfl (by decide +kernel) (by rw [Tryz.ntmps12]; simp) (by rw [Tryz.ntmps12]; decide) (fun hO => ?_); rw [Tryz.ntmps12]
  repeat' first | refine st ?_ | (refine ca ?_; first | (apply s1; (· simp only [go_sem, *]; try rfl)) | (apply s2; (· simp only [go_sem, *]; try rfl)) | (apply s3; (· simp only [go_sem, *]; try rfl)) | (apply s4; (· simp only [go_sem, *]; try rfl)) | apply s5 | apply s6 | apply s7) | (refine br ?_ ?_; all_goals (intro hb; try simp only [Bool.not_eq_true', Bool.not_eq_false'] at hb)) | fail
  (apply f_ret; iterate 7 (· simp only [go_sem, *, Tryz.results12]; try rfl))
  exact h
end Go.Proofs.YtfnnjkbhmoomjaaGreatDoor
namespace Go.Proofs.YtfnnjkbhmoomjaaGreatDoor
open Go Go.Fen
set_option linter.unusedSimpArgs false
set_option linter.unusedVariables false
attribute [local irreducible] RunX WP ACall AnyP OpA ProtL afterCall afterOp
set_option maxRecDepth 8000
theorem pP (w0 : World) (hQ : PrintOk w0) (S : List Blk) (k n m ck cn : Int) (t : List UInt8) (R : AOut → List Blk → Prop) (hs : t.length ≤ 10000) (h : R (.ret (.tup [.str (prT (printO ⟨k, n, m, ck, cn, t⟩)), .int .i64 (prE (printO ⟨k, n, m, ck, cn, t⟩))])) S) : ACall Tryz.prog w0 10 [.agg [.int .i64 k, .int .i64 n, .int .i64 m, .int .i64 ck, .int .i64 cn, .str t]] S R :=
  hQ S ⟨k, n, m, ck, cn, t⟩ hs R (by rw [printV_eq]; exact h)
theorem pR (w0 : World) (S : List Blk) (k n m ck cn : Int) (t : List UInt8) (R : AOut → List Blk → Prop) (hs : t.length ≤ 10000) (h : R (.ret (.tup [.str (prT (printO ⟨k, n, m, ck, cn, t⟩)), .int .i64 (prE (printO ⟨k, n, m, ck, cn, t⟩))])) S) : ACall Tryz.prog w0 11 [.agg [.int .i64 k, .int .i64 n, .int .i64 m, .int .i64 ck, .int .i64 cn, .str t]] S R :=
  rPrint w0 S ⟨k, n, m, ck, cn, t⟩ hs R (by rw [printV_eq]; exact h)
set_option maxHeartbeats 400000000 in
theorem printsLaw (w0 : World) (hP : ParseOk w0) (hQ : PrintOk w0) (S : List Blk) (a : Ac) (dw dn dr : Nat) (hdn : dn < 256) (dc : List Int) (dt : List UInt8) (nn : Int) (R : AOut → List Blk → Prop) (h : R (.ret (.bool true)) S) :
    ACall Tryz.prog w0 3 [a.av, draftV dw dn dr dc dt, .int .i64 nn] S R := by
  have hwo := worksLaw w0 hP hQ
  unfold WorksOk at hwo
  have t1 := fun S' => lDraft w0 S' dw dn dr hdn dc dt
  have hal := draftA_text dw dn dr dc dt
  generalize draftA dw dn dr dc dt = o at t1 hal
  have p1 := pP w0 hQ
  have p2 := pR w0
  obtain ⟨ak, an, am, aq, ar, s⟩ := a
  obtain ⟨ck, cn, cm, cq, cr, ct⟩ := o
  have hmn : (if (600 : Int) < (s.length : Int) then 600 else (s.length : Int)) = ((min s.length 600 : Nat) : Int) := by split <;> omega
  have hm2 : ((min s.length 600 : Nat) : Int) ≤ (s.length : Int) := by omega
  obtain ⟨c, hq, hcl⟩ : ∃ c, List.take (min s.length 600) s = c ∧ c.length ≤ 10000 := ⟨_, rfl, by simp; omega⟩
  have hbs : ∀ l : List UInt8, (l == l) = true := by simp
  have hbi : ∀ i : Int, (i != i) = false := by simp
  unfold draftV at t1 ⊢
  unfold Ac.av at t1 ⊢
  simp only at t1 hal ⊢
  have H := Lib.hid h
  replace hwo := Lib.hid hwo
  replace t1 := Lib.hid t1
  have P1 := Lib.hid p1
  have P2 := Lib.hid p2
  clear hP hQ hdn h p1 p2
  refine enter Tryz.func3 rfl (by decide +kernel) (by rw [Tryz.ntmps3]; simp) (by rw [Tryz.ntmps3]; decide) (fun hO => ?_); rw [Tryz.ntmps3]
  refine share ?K1 ?hK1 fun key1 => ?main
  case main =>
    repeat' ((fail_if_success (apply x_stopR 3)); first | refine st ?_ | (refine ca ?_; first | apply t1.out) | (refine br ?_ ?_; all_goals (intro hb; try simp only [Bool.not_eq_true', Bool.not_eq_false'] at hb)) | fail)
    iterate 6 (refine sd ?_)
    refine d_allocs (fun i => i + 3) (f := 5) (T := 25) (z := .cells [.int .i64 0, .int .i64 0, .int .i64 0, .int .i64 0, .int .i64 0, .str []] none) (fun S ρ => by (simp only [go_sem, *]; try rfl)) 5 [5, 6, 7, 8, 9] _ _ _ (by decide +kernel) (by simp) ?_
    simp only [eachP, List.foldr_cons, List.foldr_nil, List.erase_cons, Nat.reduceBEq, Bool.false_eq_true, if_false, if_true, List.erase_nil]
    repeat' (first | exact True.intro | apply And.intro)
    all_goals
      simp only [setAll, envAll, blkAll, Nat.reduceAdd, List.append_assoc, List.cons_append, List.nil_append, List.length_append, List.length_cons, List.length_nil]
      refine d_one 10 (by decide +kernel) ?_; apply o_step; (iterate 3 (· simp only [go_sem, *]; try rfl)); (· rfl); simp only [putA]; refine pr_go (protL_all (by simp only [List.forall_mem_cons, List.not_mem_nil, false_implies, implies_true, and_true, go_sem])) ?_
      refine d_one 11 (by decide +kernel) ?_; apply o_step; (iterate 3 (· simp only [go_sem, *]; try rfl)); (· rfl); simp only [putA]; refine pr_go (protL_all (by simp only [List.forall_mem_cons, List.not_mem_nil, false_implies, implies_true, and_true, go_sem])) ?_
      refine d_one 12 (by decide +kernel) ?_; apply o_step; (iterate 3 (· simp only [go_sem, *]; try rfl)); (· rfl); simp only [putA]; refine pr_go (protL_all (by simp only [List.forall_mem_cons, List.not_mem_nil, false_implies, implies_true, and_true, go_sem])) ?_
      refine d_one 13 (by decide +kernel) ?_; apply o_step; (iterate 3 (· simp only [go_sem, *]; try rfl)); (· rfl); simp only [putA]; refine pr_go (protL_all (by simp only [List.forall_mem_cons, List.not_mem_nil, false_implies, implies_true, and_true, go_sem])) ?_
      refine d_one 14 (by decide +kernel) ?_; apply o_step; (iterate 3 (· simp only [go_sem, *]; try rfl)); (· rfl); simp only [putA]; refine pr_go (protL_all (by simp only [List.forall_mem_cons, List.not_mem_nil, false_implies, implies_true, and_true, go_sem])) ?_
      apply d_done; (· decide +kernel)
      refine x_perm (b := .cells [.int .i64 ck, .int .i64 cn, .int .i64 cm, .int .i64 cq, .int .i64 cr, .str ct]) (L1 := [_, _, _]) hO 5 [2, 3, 7] [(8, _), (9, _), (10, _), (11, _), (12, _)] rfl (by (simp only [go_sem, *]; try rfl)) (by (simp only [go_sem, *]; try rfl)) (by (simp only [go_sem, *]; try rfl)) ⟨by (simp only [go_sem, *]; try rfl), by (simp only [go_sem, *]; try rfl), by (simp only [go_sem, *]; try rfl), by (simp only [go_sem, *]; try rfl), by (simp only [go_sem, *]; try rfl), trivial⟩ (by (simp only [go_sem, *]; try rfl)) (by rfl) ?_
      refine x_gen [1000000, 2, 3, 7, 8, 9, 10, 11, 12] ?_
      simp only [agreeL, permEnv, go_sem, List.map_cons, List.map_nil, List.idxOf_cons, Nat.reduceBEq, cond_true, cond_false, Nat.reduceAdd, List.replicate_succ, List.replicate_zero, List.cons_append, List.nil_append]
      exact key1
  case hK1 =>
    rintro env ⟨e0, e2, e3, e7, e8, e9, e10, e11, e12⟩
    obtain ⟨L, hL⟩ : ∃ L : List AV, L = [.int .i64 ak, .int .i64 an, .int .i64 am, .int .i64 aq, .int .i64 ar, .str c, .int .i64 ck, .int .i64 cn, .int .i64 cm, .int .i64 cq, .int .i64 cr, .str ct, .int .i64 ck, .int .i64 nn, .int .i64 cm, .int .i64 cq, .int .i64 cr, .str ct, .int .i64 ck, .int .i64 cn, .int .i64 nn, .int .i64 cq, .int .i64 cr, .str ct, .int .i64 ck, .int .i64 cn, .int .i64 cm, .int .i64 cq, .int .i64 cr, .str c, .int .i64 ck, .int .i64 cn, .int .i64 cm, .int .i64 aq, .int .i64 ar, .str ct, .int .i64 ak, .int .i64 cn, .int .i64 cm, .int .i64 cq, .int .i64 cr, .str ct, .int .i64 44, .int .i64 0, .int .i64 0, .int .i64 0, .int .i64 0, .str c, .int .i64 46, .int .i64 0, .int .i64 0, .int .i64 0, .int .i64 0, .str c] := ⟨_, rfl⟩
    have hda : ∀ k, k < 9 → ∃ x1 x2 x3 x4 x5 t, List.take 6 (List.drop (k * 6) L) = [.int .i64 x1, .int .i64 x2, .int .i64 x3, .int .i64 x4, .int .i64 x5, .str t] ∧ t.length ≤ 10000 := by
      intro k hk
      rw [hL]
      match k, hk with
      | 0, _ => exact ⟨_, _, _, _, _, _, rfl, hcl⟩
      | 1, _ => exact ⟨_, _, _, _, _, _, rfl, hal⟩
      | 2, _ => exact ⟨_, _, _, _, _, _, rfl, hal⟩
      | 3, _ => exact ⟨_, _, _, _, _, _, rfl, hal⟩
      | 4, _ => exact ⟨_, _, _, _, _, _, rfl, hcl⟩
      | 5, _ => exact ⟨_, _, _, _, _, _, rfl, hal⟩
      | 6, _ => exact ⟨_, _, _, _, _, _, rfl, hal⟩
      | 7, _ => exact ⟨_, _, _, _, _, _, rfl, hcl⟩
      | 8, _ => exact ⟨_, _, _, _, _, _, rfl, hcl⟩
    have hlen : L.length = 54 := by rw [hL]; rfl
    have hLt : ∀ n, ltL n L = true := by intro n; rw [hL]; rfl
    repeat' first | refine st ?_ | (refine br ?_ ?_; all_goals (intro hb; try simp only [Bool.not_eq_true', Bool.not_eq_false'] at hb)) | refine sd ?_ | apply pl_nil | (apply c_end; (· decide +kernel)) | refine bd ?_ ?_ | fail
    refine x_keep hO 0 [60, 61] rfl (by (simp only [go_sem, *]; try rfl)) (by (simp only [go_sem, *]; try rfl)) (by (simp only [go_sem, *]; try rfl)) ?_
    simp only [List.take_zero, List.append_nil]
    have Hda := Lib.hid hda
    have Hlen := Lib.hid hlen
    clear hda hlen e2 e3 e7 e8 e9 e10 e11 e12 hmn hm2 hq hcl hal
    refine x_ind (fun (k : Nat) env S' => k ≤ 9 ∧ env 1000000 = .dfr [] ∧ env 60 = .agg L ∧ env 61 = .int .i64 (k : Int) ∧ S' = S) (fun k => 9 - k) 0 ?_ ?_
    · exact ⟨by omega, by (simp only [go_sem, *]; try rfl), by rw [hL]; (simp only [go_sem, *]; try rfl), by (simp only [go_sem, *]; try rfl), rfl⟩
    · clear hL
      rintro k env S' ⟨hk, e0, f60, f61, rfl⟩ IH
      have HI := Lib.hid IH
      clear IH
      by_cases hlt : k < 9
      · obtain ⟨x1, x2, x3, x4, x5, t, hx, htl⟩ := Hda.out k hlt
        have h1 : decide ((k : Int) < 9) = true := by simp; omega
        have hk9 : (k : Int) < ((9 : Nat) : Int) := by omega
        have hw : IntKind.i64.wrap ((k : Int) + 1) = (k : Int) + 1 := IntWalk.i64_in _ (by omega)
        have hd6 : 6 ≤ (List.drop (k * 6) L).length := by have := congrArg List.length hx; simp at this ⊢; omega
        have p1 := P1.out
        have p2 := P2.out
        have Hlt := Lib.hid hlt
        clear hlt hk
        repeat' first | refine st ?_ | (refine ca ?_; first | (apply p1; (· simp only [go_sem, *]; try rfl)) | (apply p2; (· simp only [go_sem, *]; try rfl))) | (refine br ?_ ?_; all_goals (intro hb; try simp only [Bool.not_eq_true', Bool.not_eq_false'] at hb)) | fail
        refine x_keep hO 0 [60, 61] rfl (by (simp only [go_sem, *]; try rfl)) (by (simp only [go_sem, *]; try rfl)) (by (simp only [go_sem, *]; try rfl)) ?_
        refine HI.out (k + 1) _ _ (by have := Hlt.out; omega) ⟨Hlt.out, ?_, ?_, ?_, ?_⟩
        all_goals (simp only [go_sem, *]; try rfl)
      · have h1 : decide ((k : Int) < 9) = false := by simp; omega
        have hh := H.out
        clear hlt hk HI
        repeat' first | refine st ?_ | (refine ca ?_; first | apply hwo.out) | (refine br ?_ ?_; all_goals (intro hb; try simp only [Bool.not_eq_true', Bool.not_eq_false'] at hb)) | fail
        (apply f_ret; iterate 7 (· simp only [go_sem, *, Tryz.results3]; try rfl))
        exact hh
end Go.Proofs.YtfnnjkbhmoomjaaGreatDoor
namespace Go.Proofs.YtfnnjkbhmoomjaaGreatDoor
open Go Go.Fen
set_option linter.unusedSimpArgs false
set_option linter.unusedVariables false
attribute [local irreducible] RunX WP ACall AnyP OpA ProtL afterCall afterOp
set_option maxRecDepth 8000
namespace OscPrints
theorem contract (H : Type) (enc : TypeId × Value → H) (W : World) (base : Nat) (args : Array Value) (ds gs : List (DataW H)) (before : List MemPlace)
    (hval : ∀ (j : Nat) t v, Tryz.f3.params[j]? = some t → args[j]? = some v → Value.okWide Tryz.prog W .any base t v)
    (hW : DataW.Whole enc Tryz.prog Tryz.f3.params.toList Rows.oscPrintsSpec.vars false W args.toList ds gs before) (hL : laidMetH Tryz.prog seatLaid W) :
    Calls Tryz.prog 3 args W fun e W' => ∃ v, e = .returned v ∧ Rows.oscPrintsSpec.post enc Tryz.prog Tryz.f3 false true false false W args v W' := by
  refine law_close (n := 20) (tb := 4) [acSk, draftSk, (.int .i64)] laidOut ?_ (by rw [Tryz.params3]; kernel_rfl) (by kernel_rfl) un_4 rfl ?_ hW hval ?_
  · rw [Tryz.params3]
    have : ([25, 29, 3].all fun t => Tryz.prog.readableRec t && decide (t < Tryz.prog.types.size)) = true := by kernel_rfl
    intro t ht
    simpa using List.all_eq_true.1 this t (by simpa using ht)
  · intro h
    rw [Tryz.params3] at h
    match ds, h with
    | [d1, d2, d3], _ => rfl
  · intro avs ha
    obtain ⟨y1, r1, h1, e1, ha1⟩ := ArgsH.cons' ha
    obtain ⟨y2, r2, h2, e2, ha2⟩ := ArgsH.cons' ha1
    obtain ⟨y3, r3, h3, e3, ha3⟩ := ArgsH.cons' ha2
    have e4 := ArgsH.nil' ha3
    rw [e1, e2, e3, e4]
    obtain ⟨a, ha⟩ := open_ac y1 h1
    obtain ⟨w, n, r, c, t, hn, hd⟩ := open_draft y2 h2
    obtain ⟨k, rfl, _⟩ := h3
    rw [ha, hd]
    exact printsLaw W (parse_of hL) (print_of hL) [] a w n r hn c t k _ rfl
def wit : Array Value := #[.agg #[.int .i64 0, .int .i64 0, .int .i64 0, .int .i64 0, .int .i64 0, .string ⟨#[]⟩], .agg #[.int .u8 0, .int .u8 0, .int .u32 0, .slice none 0 0, .string ⟨#[]⟩], .int .i64 0]
set_option maxRecDepth 100000 in
theorem lifted (os : Os) (started : os.Started) (H : Type) (enc : TypeId × Value → H) :
    ReturnsInHanded {} Tryz.checked os 3 .any (fun w args => (Rows.oscPrintsSpec.pre enc Tryz.prog Tryz.f3 Rows.oscPrintsRow.domain false w args ∧ laidMetH Tryz.prog seatLaid w) ∧ sizedMet enc Tryz.prog Tryz.f3 (OpenSpec.ofChange Rows.oscPrintsSpec) false w args)
      (Rows.oscPrintsSpec.post enc Tryz.prog Tryz.f3 false true false false) := by
  refine returnsInHanded_of_change_and (C := Tryz.checked) (X := fun w _ => laidMetH Tryz.prog seatLaid w) (fun _ _ _ hh h => h.of_heap hh) own started (by kernel_rfl) Tryz.func3
    (ChangeSpec.witness_shaped (enc := enc) (C := Tryz.checked) (os := os) (X := fun w _ => laidMetH Tryz.prog seatLaid w) false (World.laidAll Tryz.prog os seatLaid) wit 8 (World.laidAll_os _ _ _)
      (World.shaped_of_ZipB (by kernel_rfl) (by kernel_rfl)) (by kernel_rfl) (by kernel_rfl) (by kernel_rfl)
      (by rw [MakeChecks.laidMetH_plain _ _ _ (by kernel_rfl)]; exact laidMet_laidAll _ (by kernel_rfl) (by kernel_rfl))) ?_
  intro W base args ds gs before hval hW _ _ hL _
  exact contract H enc W base args ds gs before hval hW hL
theorem said : Rows.OscPrintsSaid :=
  OpenClaim.holds_of_wide 3 Tryz.f3 rfl rfl rfl rfl rfl rfl rfl ⟨rfl, rfl, rfl, rfl, rfl⟩ rfl rfl rfl rfl rfl (by kernel_rfl) Tryz.func3 (by kernel_rfl)
    (of_decide_eq_true (by kernel_rfl)) (by unfold Func.isWrapper; first | (rw [if_pos (by decide +kernel)]; kernel_rfl) | (rw [if_neg (by decide +kernel)]; exact ⟨rfl, rfl⟩))
    (fun os started H enc _ => lifted os started H enc)
theorem plainF (f : FuncId) (fn : Func) (hf : Tryz.pinned.checked.prog.funcNamed "fenestra/fenestralaw08.OscPrints" = some f) (hfn : Tryz.pinned.checked.prog.funcs[f]? = some fn) :
    true = Tryz.pinned.checked.prog.looks [] ∧ ∀ (j : Nat) t, fn.params[j]? = some t → Tryz.pinned.checked.prog.wantsStandIn t = false := by
  obtain rfl : f = 3 := Option.some.inj ((show Tryz.prog.funcNamed "fenestra/fenestralaw08.OscPrints" = some 3 by kernel_rfl).symm.trans hf) |>.symm
  obtain rfl : fn = Tryz.f3 := (Option.some.inj (Tryz.func3.symm.trans hfn)).symm
  refine ⟨by kernel_rfl, fun j t ht => ?_⟩
  rw [Tryz.params3] at ht
  have hm : t ∈ [25, 29, 3] := by simpa using Array.mem_of_getElem? ht
  have hall : ([25, 29, 3].all fun u => !Tryz.prog.wantsStandIn u) = true := by kernel_rfl
  exact (show Tryz.prog.wantsStandIn t = false by simpa using List.all_eq_true.1 hall t hm)
theorem card : Rows.OscPrintsCardSaid :=
  Claim7.holds_tied_plain_at .later [] _ _ _ _ said (fun _ h => by cases h) (by kernel_rfl) (fun _ h => by cases h) oscPrints_row_tie rfl ⟨rfl, rfl⟩ (by kernel_rfl) rfl plainF (by kernel_rfl)
end OscPrints
end Go.Proofs.YtfnnjkbhmoomjaaGreatDoor
