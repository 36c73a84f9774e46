/- YtfnnjkbhmoomjaaGreatDoorWalk1. Texts of the proof of a law about texts: a layer of abstract values above the worlds, the types, the walks of the functions that the law reaches, the law and its card. Own work of an AI agent. -/
import Derived.Test.YtfnnjkbhmoomjaaGreatDoorWalk0
import Derived.Test.YtfnnjkbhmoomjaaGreatDoorCore1
import Derived.Lib.ItoaMem
set_option linter.all false
set_option linter.unusedVariables false
set_option linter.unusedSimpArgs false
namespace Go.Proofs.YtfnnjkbhmoomjaaGreatDoor
open Go Go.Fen
set_option linter.unusedSimpArgs false
set_option linter.unusedVariables false
attribute [local irreducible] RunX WP ACall AnyP OpA ProtL
set_option maxRecDepth 8000
theorem spanL_lt : ∀ (n : Nat) (r : List Nat) (lo hi : Nat) (q : Nat × Nat), spanL n r lo hi = some q → q.1 ≤ (lo + 1) * 64 ^ n ∧ q.2 + 1 ≤ (hi + 1) * 64 ^ n
  | 0, r, lo, hi, q, h => by
    rw [spanL] at h; cases h; simp
  | n + 1, [], lo, hi, q, h => by
    rw [spanL] at h
    have := spanL_lt n [] _ _ q h
    rw [Nat.pow_succ, ← Nat.mul_assoc, ← Nat.mul_assoc]
    have e1 : (lo + 1) * 64 ^ n * 64 = (lo * 64 + 64) * 64 ^ n := by rw [Nat.mul_right_comm, Nat.add_mul]
    have e2 : (hi + 1) * 64 ^ n * 64 = (hi * 64 + 63 + 1) * 64 ^ n := by rw [Nat.mul_right_comm, Nat.add_mul]
    rw [e1, e2]
    refine ⟨Nat.le_trans this.1 (Nat.mul_le_mul_right _ (by omega)), this.2⟩
  | n + 1, b :: r, lo, hi, q, h => by
    rw [spanL] at h
    split at h
    · cases h
    · have := spanL_lt n r _ _ q h
      rw [Nat.pow_succ, ← Nat.mul_assoc, ← Nat.mul_assoc]
      have e1 : (lo + 1) * 64 ^ n * 64 = (lo * 64 + 64) * 64 ^ n := by rw [Nat.mul_right_comm, Nat.add_mul]
      have e2 : (hi + 1) * 64 ^ n * 64 = (hi * 64 + 64) * 64 ^ n := by rw [Nat.mul_right_comm, Nat.add_mul]
      rw [e1, e2]
      refine ⟨Nat.le_trans this.1 (Nat.mul_le_mul_right _ (by omega)), Nat.le_trans this.2 (Nat.mul_le_mul_right _ (by omega))⟩
theorem spanR_le (p : List Nat) (hp : ∀ x ∈ p, x < 256) : (spanR p).1 ≤ 134217728 ∧ (spanR p).2.1 ≤ 134217728 ∧ (spanR p).2.2 ≤ 4 := by
  cases p with
  | nil => simp [spanR]
  | cons a r =>
    have hf := firstR_le a (hp a (List.mem_cons_self ..))
    rw [spanR]
    cases hs : spanL ((firstR a).1 - 1) r (firstR a).2 (firstR a).2 with
    | none => simp
    | some q =>
      have := spanL_lt _ _ _ _ _ hs
      obtain ⟨lo, hi⟩ := q
      simp only at this ⊢
      have h3 : 64 ^ ((firstR a).1 - 1) ≤ 262144 := Nat.pow_le_pow_right (by decide : 64 > 0) (show (firstR a).1 - 1 ≤ 3 by omega)
      have h4 : ((firstR a).2 + 1) * 64 ^ ((firstR a).1 - 1) ≤ 257 * 262144 := Nat.mul_le_mul (by omega) h3
      split
      · simp
      · simp only; omega
set_option maxHeartbeats 4000000 in
theorem rGoes (w0 : World) (S : List Blk) (p : List Nat) (hp : ∀ x ∈ p, x < 256) (h4 : p.length ≤ 4) (R : AOut → List Blk → Prop) (h : R (.ret (.tup [.bool (goesR p).1, .bool (goesR p).2])) S) : ACall Tryz.prog w0 116 [.sval false (p.map By)] S R := by
  have hs := fun S' => rSpan w0 S' p hp h4
  have hle := spanR_le p hp
  unfold spanV at hs
  unfold goesR at h
  simp only at h
  generalize spanR p = q at hs hle h
  obtain ⟨lo, hi, n⟩ := q
  simp only at hs hle h
  obtain ⟨l1, l2, l3⟩ := hle
  have hn : n = 0 ∨ n = 1 ∨ n = 2 ∨ n = 3 ∨ n = 4 := by omega
  clear hp h4 l1 l2 l3
  rcases hn with rfl | rfl | rfl | rfl | rfl
  · have h : R (.ret (.tup [.bool false, .bool false])) S := h
    have e0 : (((0 : Nat) : Int) == 0) = true := rfl
    refine enter Tryz.func116 rfl (by decide +kernel) (by rw [Tryz.ntmps116]; simp) (by rw [Tryz.ntmps116]; decide) (fun hO => ?_); rw [Tryz.ntmps116]
    repeat' first | apply x_seq | apply x_skip | apply x_block | apply x_exit | apply x_ret | apply x_ops_nil | apply p_blk | apply p_exit_it | apply p_exit_hit | apply p_ret_it | apply p_ret_blk | apply p_panic_it | apply p_panic_blk | apply p_end | (apply p_exit_miss; (· rfl)) | (apply x_region; simp only [List.toList_toArray]) | (apply x_step0; (· rfl); (· simp only [go_sem, *]; try rfl); (· rfl); simp only [putA]) | (apply x_callA []; (· simp only [go_sem, *]; try rfl); (· rfl); (· simp only [go_sem, *]; try rfl); (· rfl); (iterate 2 (· simp only [go_sem, *]; try rfl)); (first | apply hs); simp only [afterCall, putA]) | (apply x_panic; (· simp only [go_sem, *]; try rfl); (· rfl); (· simp only [go_sem, *]; try rfl)) | (apply x_step; (iterate 2 (· simp only [go_sem, *]; try rfl)); (· rfl); simp only [putA]) | (apply x_unwanted; (· simp only [go_sem, *]; try rfl); (· rfl); simp only [putA]) | (apply x_condT; (· simp only [go_sem, *]; try rfl)) | (apply x_condF; (· simp only [go_sem, *]; try rfl)) | (apply x_guardS; (· rfl); (fail_if_success (focus (show _ = some true; (· simp only [go_sem, *]; try rfl)))); (· simp only [go_sem, *]; try rfl); all_goals (intro hb; try simp only [Bool.not_eq_true', Bool.not_eq_false'] at hb)) | (apply x_condS; (· simp only [go_sem, *]; try rfl); all_goals (intro hb; try simp only [Bool.not_eq_true', Bool.not_eq_false'] at hb)) | fail
    (apply f_ret; iterate 7 (· simp only [go_sem, *, Tryz.results116]; try rfl))
    exact h
  all_goals
    rw [if_neg (by decide)] at h
    simp only [leastR, mostR] at h
  · have e0 : (((1 : Nat) : Int) == 0) = false := rfl
    obtain ⟨L, hL⟩ : ∃ L, max lo 0 = L := ⟨_, rfl⟩
    obtain ⟨M, hM⟩ : ∃ M, min hi 127 = M := ⟨_, rfl⟩
    rw [hL, hM] at h
    have m1 : (if (0 : Int) > (lo : Int) then (0 : Int) else (lo : Int)) = (L : Int) := by rw [← hL]; split <;> omega
    have m2 : (if (127 : Int) < (hi : Int) then (127 : Int) else (hi : Int)) = (M : Int) := by rw [← hM]; split <;> omega
    replace hM : M ≤ 127 := by omega
    clear hL
    by_cases c1 : L ≤ M
    · have d1 : decide ((L : Int) ≤ (M : Int)) = true := by simp; omega
      by_cases c2 : 55296 ≤ L
      · exact absurd c1 (by omega)
      · have d2 : decide ((55296 : Int) ≤ (L : Int)) = false := by simp; omega
        by_cases c4 : p.length = 1
        · have d4 : ((p.length : Int) == ((1 : Nat) : Int)) = true := by rw [beq_iff_eq]; omega
          simp only [decide_eq_true c1, decide_eq_false c2, decide_eq_true c4, Bool.true_and, Bool.false_and, Bool.and_true, Bool.not_true, Bool.not_false, Bool.and_false] at h
          clear hM c1 c2 c4
          refine enter Tryz.func116 rfl (by decide +kernel) (by rw [Tryz.ntmps116]; simp) (by rw [Tryz.ntmps116]; decide) (fun hO => ?_); rw [Tryz.ntmps116]
          repeat' first | apply x_seq | apply x_skip | apply x_block | apply x_exit | apply x_ret | apply x_ops_nil | apply p_blk | apply p_exit_it | apply p_exit_hit | apply p_ret_it | apply p_ret_blk | apply p_panic_it | apply p_panic_blk | apply p_end | (apply p_exit_miss; (· rfl)) | (apply x_region; simp only [List.toList_toArray]) | (apply x_step0; (· rfl); (· simp only [go_sem, *]; try rfl); (· rfl); simp only [putA]) | (apply x_callA []; (· simp only [go_sem, *]; try rfl); (· rfl); (· simp only [go_sem, *]; try rfl); (· rfl); (iterate 2 (· simp only [go_sem, *]; try rfl)); (first | apply hs); simp only [afterCall, putA]) | (apply x_panic; (· simp only [go_sem, *]; try rfl); (· rfl); (· simp only [go_sem, *]; try rfl)) | (apply x_step; (iterate 2 (· simp only [go_sem, *]; try rfl)); (· rfl); simp only [putA]) | (apply x_unwanted; (· simp only [go_sem, *]; try rfl); (· rfl); simp only [putA]) | (apply x_condT; (· simp only [go_sem, *]; try rfl)) | (apply x_condF; (· simp only [go_sem, *]; try rfl)) | (apply x_guardS; (· rfl); (fail_if_success (focus (show _ = some true; (· simp only [go_sem, *]; try rfl)))); (· simp only [go_sem, *]; try rfl); all_goals (intro hb; try simp only [Bool.not_eq_true', Bool.not_eq_false'] at hb)) | (apply x_condS; (· simp only [go_sem, *]; try rfl); all_goals (intro hb; try simp only [Bool.not_eq_true', Bool.not_eq_false'] at hb)) | (apply d_draw; (· exact mixed); (· simp only [List.size_toArray, List.length_cons, List.length_nil, Nat.reduceAdd]; try rfl)) | (apply d_done; (· decide +kernel)) | (apply a_0; (repeat (apply a_s; (· decide +kernel))); apply a_take; (· decide +kernel); (· first | exact qds_FPost | exact qds_RPost | exact qds_YB | assumption); (· rfl); (iterate 3 (· simp only [go_sem, *]; try rfl)); (· rfl); (· simp only [go_sem, *]; try rfl); simp only [putA]) | (apply a_0; (repeat (apply a_s; (· decide +kernel))); apply a_unw; (· decide +kernel); (· first | exact qds_FPost | exact qds_RPost | exact qds_YB | assumption); (· rfl); (iterate 2 (· simp only [go_sem, *]; try rfl)); (· rfl); simp only [putA]) | (apply a_0; (repeat (apply a_o; (· decide +kernel))); apply a_one; (· decide +kernel)) | (apply o_step; (iterate 3 (· simp only [go_sem, *]; try rfl)); (· rfl); simp only [putA]) | (apply o_unw; (iterate 2 (· simp only [go_sem, *]; try rfl)); (· rfl); simp only [putA]) | apply pr_nil | apply pr_same | apply pr_go | apply pl_nil | apply pl_none | (apply pl_skip; (· decide +kernel)) | (apply pl_one; (· simp only [go_sem, *]; try rfl)) | (apply o_call []; (iterate 2 (· simp only [go_sem, *]; try rfl)); (· rfl); (· simp only [go_sem, *]; try rfl); (· rfl); (iterate 2 (· simp only [go_sem, *]; try rfl)); (first | apply hs); simp only [afterOp, putA]) | fail
          (apply f_ret; iterate 7 (· simp only [go_sem, *, Tryz.results116]; try rfl))
          exact h
        · have d4 : ((p.length : Int) == ((1 : Nat) : Int)) = false := by rw [beq_eq_false_iff_ne]; omega
          simp only [decide_eq_true c1, decide_eq_false c2, decide_eq_false c4, Bool.true_and, Bool.false_and, Bool.and_true, Bool.not_true, Bool.not_false, Bool.and_false] at h
          clear hM c1 c2 c4
          refine enter Tryz.func116 rfl (by decide +kernel) (by rw [Tryz.ntmps116]; simp) (by rw [Tryz.ntmps116]; decide) (fun hO => ?_); rw [Tryz.ntmps116]
          repeat' first | apply x_seq | apply x_skip | apply x_block | apply x_exit | apply x_ret | apply x_ops_nil | apply p_blk | apply p_exit_it | apply p_exit_hit | apply p_ret_it | apply p_ret_blk | apply p_panic_it | apply p_panic_blk | apply p_end | (apply p_exit_miss; (· rfl)) | (apply x_region; simp only [List.toList_toArray]) | (apply x_step0; (· rfl); (· simp only [go_sem, *]; try rfl); (· rfl); simp only [putA]) | (apply x_callA []; (· simp only [go_sem, *]; try rfl); (· rfl); (· simp only [go_sem, *]; try rfl); (· rfl); (iterate 2 (· simp only [go_sem, *]; try rfl)); (first | apply hs); simp only [afterCall, putA]) | (apply x_panic; (· simp only [go_sem, *]; try rfl); (· rfl); (· simp only [go_sem, *]; try rfl)) | (apply x_step; (iterate 2 (· simp only [go_sem, *]; try rfl)); (· rfl); simp only [putA]) | (apply x_unwanted; (· simp only [go_sem, *]; try rfl); (· rfl); simp only [putA]) | (apply x_condT; (· simp only [go_sem, *]; try rfl)) | (apply x_condF; (· simp only [go_sem, *]; try rfl)) | (apply x_guardS; (· rfl); (fail_if_success (focus (show _ = some true; (· simp only [go_sem, *]; try rfl)))); (· simp only [go_sem, *]; try rfl); all_goals (intro hb; try simp only [Bool.not_eq_true', Bool.not_eq_false'] at hb)) | (apply x_condS; (· simp only [go_sem, *]; try rfl); all_goals (intro hb; try simp only [Bool.not_eq_true', Bool.not_eq_false'] at hb)) | (apply d_draw; (· exact mixed); (· simp only [List.size_toArray, List.length_cons, List.length_nil, Nat.reduceAdd]; try rfl)) | (apply d_done; (· decide +kernel)) | (apply a_0; (repeat (apply a_s; (· decide +kernel))); apply a_take; (· decide +kernel); (· first | exact qds_FPost | exact qds_RPost | exact qds_YB | assumption); (· rfl); (iterate 3 (· simp only [go_sem, *]; try rfl)); (· rfl); (· simp only [go_sem, *]; try rfl); simp only [putA]) | (apply a_0; (repeat (apply a_s; (· decide +kernel))); apply a_unw; (· decide +kernel); (· first | exact qds_FPost | exact qds_RPost | exact qds_YB | assumption); (· rfl); (iterate 2 (· simp only [go_sem, *]; try rfl)); (· rfl); simp only [putA]) | (apply a_0; (repeat (apply a_o; (· decide +kernel))); apply a_one; (· decide +kernel)) | (apply o_step; (iterate 3 (· simp only [go_sem, *]; try rfl)); (· rfl); simp only [putA]) | (apply o_unw; (iterate 2 (· simp only [go_sem, *]; try rfl)); (· rfl); simp only [putA]) | apply pr_nil | apply pr_same | apply pr_go | apply pl_nil | apply pl_none | (apply pl_skip; (· decide +kernel)) | (apply pl_one; (· simp only [go_sem, *]; try rfl)) | (apply o_call []; (iterate 2 (· simp only [go_sem, *]; try rfl)); (· rfl); (· simp only [go_sem, *]; try rfl); (· rfl); (iterate 2 (· simp only [go_sem, *]; try rfl)); (first | apply hs); simp only [afterOp, putA]) | fail
          (apply f_ret; iterate 7 (· simp only [go_sem, *, Tryz.results116]; try rfl))
          exact h
    · have d1 : decide ((L : Int) ≤ (M : Int)) = false := by simp; omega
      simp only [decide_eq_false c1, Bool.true_and, Bool.false_and, Bool.and_true, Bool.not_true, Bool.not_false, Bool.and_false] at h
      clear hM c1
      refine enter Tryz.func116 rfl (by decide +kernel) (by rw [Tryz.ntmps116]; simp) (by rw [Tryz.ntmps116]; decide) (fun hO => ?_); rw [Tryz.ntmps116]
      repeat' first | apply x_seq | apply x_skip | apply x_block | apply x_exit | apply x_ret | apply x_ops_nil | apply p_blk | apply p_exit_it | apply p_exit_hit | apply p_ret_it | apply p_ret_blk | apply p_panic_it | apply p_panic_blk | apply p_end | (apply p_exit_miss; (· rfl)) | (apply x_region; simp only [List.toList_toArray]) | (apply x_step0; (· rfl); (· simp only [go_sem, *]; try rfl); (· rfl); simp only [putA]) | (apply x_callA []; (· simp only [go_sem, *]; try rfl); (· rfl); (· simp only [go_sem, *]; try rfl); (· rfl); (iterate 2 (· simp only [go_sem, *]; try rfl)); (first | apply hs); simp only [afterCall, putA]) | (apply x_panic; (· simp only [go_sem, *]; try rfl); (· rfl); (· simp only [go_sem, *]; try rfl)) | (apply x_step; (iterate 2 (· simp only [go_sem, *]; try rfl)); (· rfl); simp only [putA]) | (apply x_unwanted; (· simp only [go_sem, *]; try rfl); (· rfl); simp only [putA]) | (apply x_condT; (· simp only [go_sem, *]; try rfl)) | (apply x_condF; (· simp only [go_sem, *]; try rfl)) | (apply x_guardS; (· rfl); (fail_if_success (focus (show _ = some true; (· simp only [go_sem, *]; try rfl)))); (· simp only [go_sem, *]; try rfl); all_goals (intro hb; try simp only [Bool.not_eq_true', Bool.not_eq_false'] at hb)) | (apply x_condS; (· simp only [go_sem, *]; try rfl); all_goals (intro hb; try simp only [Bool.not_eq_true', Bool.not_eq_false'] at hb)) | (apply d_draw; (· exact mixed); (· simp only [List.size_toArray, List.length_cons, List.length_nil, Nat.reduceAdd]; try rfl)) | (apply d_done; (· decide +kernel)) | (apply a_0; (repeat (apply a_s; (· decide +kernel))); apply a_take; (· decide +kernel); (· first | exact qds_FPost | exact qds_RPost | exact qds_YB | assumption); (· rfl); (iterate 3 (· simp only [go_sem, *]; try rfl)); (· rfl); (· simp only [go_sem, *]; try rfl); simp only [putA]) | (apply a_0; (repeat (apply a_s; (· decide +kernel))); apply a_unw; (· decide +kernel); (· first | exact qds_FPost | exact qds_RPost | exact qds_YB | assumption); (· rfl); (iterate 2 (· simp only [go_sem, *]; try rfl)); (· rfl); simp only [putA]) | (apply a_0; (repeat (apply a_o; (· decide +kernel))); apply a_one; (· decide +kernel)) | (apply o_step; (iterate 3 (· simp only [go_sem, *]; try rfl)); (· rfl); simp only [putA]) | (apply o_unw; (iterate 2 (· simp only [go_sem, *]; try rfl)); (· rfl); simp only [putA]) | apply pr_nil | apply pr_same | apply pr_go | apply pl_nil | apply pl_none | (apply pl_skip; (· decide +kernel)) | (apply pl_one; (· simp only [go_sem, *]; try rfl)) | (apply o_call []; (iterate 2 (· simp only [go_sem, *]; try rfl)); (· rfl); (· simp only [go_sem, *]; try rfl); (· rfl); (iterate 2 (· simp only [go_sem, *]; try rfl)); (first | apply hs); simp only [afterOp, putA]) | fail
      (apply f_ret; iterate 7 (· simp only [go_sem, *, Tryz.results116]; try rfl))
      exact h
  · have e0 : (((2 : Nat) : Int) == 0) = false := rfl
    obtain ⟨L, hL⟩ : ∃ L, max lo 128 = L := ⟨_, rfl⟩
    obtain ⟨M, hM⟩ : ∃ M, min hi 2047 = M := ⟨_, rfl⟩
    rw [hL, hM] at h
    have m1 : (if (128 : Int) > (lo : Int) then (128 : Int) else (lo : Int)) = (L : Int) := by rw [← hL]; split <;> omega
    have m2 : (if (2047 : Int) < (hi : Int) then (2047 : Int) else (hi : Int)) = (M : Int) := by rw [← hM]; split <;> omega
    replace hM : M ≤ 2047 := by omega
    clear hL
    by_cases c1 : L ≤ M
    · have d1 : decide ((L : Int) ≤ (M : Int)) = true := by simp; omega
      by_cases c2 : 55296 ≤ L
      · exact absurd c1 (by omega)
      · have d2 : decide ((55296 : Int) ≤ (L : Int)) = false := by simp; omega
        by_cases c4 : p.length = 2
        · have d4 : ((p.length : Int) == ((2 : Nat) : Int)) = true := by rw [beq_iff_eq]; omega
          simp only [decide_eq_true c1, decide_eq_false c2, decide_eq_true c4, Bool.true_and, Bool.false_and, Bool.and_true, Bool.not_true, Bool.not_false, Bool.and_false] at h
          clear hM c1 c2 c4
          refine enter Tryz.func116 rfl (by decide +kernel) (by rw [Tryz.ntmps116]; simp) (by rw [Tryz.ntmps116]; decide) (fun hO => ?_); rw [Tryz.ntmps116]
          repeat' first | apply x_seq | apply x_skip | apply x_block | apply x_exit | apply x_ret | apply x_ops_nil | apply p_blk | apply p_exit_it | apply p_exit_hit | apply p_ret_it | apply p_ret_blk | apply p_panic_it | apply p_panic_blk | apply p_end | (apply p_exit_miss; (· rfl)) | (apply x_region; simp only [List.toList_toArray]) | (apply x_step0; (· rfl); (· simp only [go_sem, *]; try rfl); (· rfl); simp only [putA]) | (apply x_callA []; (· simp only [go_sem, *]; try rfl); (· rfl); (· simp only [go_sem, *]; try rfl); (· rfl); (iterate 2 (· simp only [go_sem, *]; try rfl)); (first | apply hs); simp only [afterCall, putA]) | (apply x_panic; (· simp only [go_sem, *]; try rfl); (· rfl); (· simp only [go_sem, *]; try rfl)) | (apply x_step; (iterate 2 (· simp only [go_sem, *]; try rfl)); (· rfl); simp only [putA]) | (apply x_unwanted; (· simp only [go_sem, *]; try rfl); (· rfl); simp only [putA]) | (apply x_condT; (· simp only [go_sem, *]; try rfl)) | (apply x_condF; (· simp only [go_sem, *]; try rfl)) | (apply x_guardS; (· rfl); (fail_if_success (focus (show _ = some true; (· simp only [go_sem, *]; try rfl)))); (· simp only [go_sem, *]; try rfl); all_goals (intro hb; try simp only [Bool.not_eq_true', Bool.not_eq_false'] at hb)) | (apply x_condS; (· simp only [go_sem, *]; try rfl); all_goals (intro hb; try simp only [Bool.not_eq_true', Bool.not_eq_false'] at hb)) | (apply d_draw; (· exact mixed); (· simp only [List.size_toArray, List.length_cons, List.length_nil, Nat.reduceAdd]; try rfl)) | (apply d_done; (· decide +kernel)) | (apply a_0; (repeat (apply a_s; (· decide +kernel))); apply a_take; (· decide +kernel); (· first | exact qds_FPost | exact qds_RPost | exact qds_YB | assumption); (· rfl); (iterate 3 (· simp only [go_sem, *]; try rfl)); (· rfl); (· simp only [go_sem, *]; try rfl); simp only [putA]) | (apply a_0; (repeat (apply a_s; (· decide +kernel))); apply a_unw; (· decide +kernel); (· first | exact qds_FPost | exact qds_RPost | exact qds_YB | assumption); (· rfl); (iterate 2 (· simp only [go_sem, *]; try rfl)); (· rfl); simp only [putA]) | (apply a_0; (repeat (apply a_o; (· decide +kernel))); apply a_one; (· decide +kernel)) | (apply o_step; (iterate 3 (· simp only [go_sem, *]; try rfl)); (· rfl); simp only [putA]) | (apply o_unw; (iterate 2 (· simp only [go_sem, *]; try rfl)); (· rfl); simp only [putA]) | apply pr_nil | apply pr_same | apply pr_go | apply pl_nil | apply pl_none | (apply pl_skip; (· decide +kernel)) | (apply pl_one; (· simp only [go_sem, *]; try rfl)) | (apply o_call []; (iterate 2 (· simp only [go_sem, *]; try rfl)); (· rfl); (· simp only [go_sem, *]; try rfl); (· rfl); (iterate 2 (· simp only [go_sem, *]; try rfl)); (first | apply hs); simp only [afterOp, putA]) | fail
          (apply f_ret; iterate 7 (· simp only [go_sem, *, Tryz.results116]; try rfl))
          exact h
        · have d4 : ((p.length : Int) == ((2 : Nat) : Int)) = false := by rw [beq_eq_false_iff_ne]; omega
          simp only [decide_eq_true c1, decide_eq_false c2, decide_eq_false c4, Bool.true_and, Bool.false_and, Bool.and_true, Bool.not_true, Bool.not_false, Bool.and_false] at h
          clear hM c1 c2 c4
          refine enter Tryz.func116 rfl (by decide +kernel) (by rw [Tryz.ntmps116]; simp) (by rw [Tryz.ntmps116]; decide) (fun hO => ?_); rw [Tryz.ntmps116]
          repeat' first | apply x_seq | apply x_skip | apply x_block | apply x_exit | apply x_ret | apply x_ops_nil | apply p_blk | apply p_exit_it | apply p_exit_hit | apply p_ret_it | apply p_ret_blk | apply p_panic_it | apply p_panic_blk | apply p_end | (apply p_exit_miss; (· rfl)) | (apply x_region; simp only [List.toList_toArray]) | (apply x_step0; (· rfl); (· simp only [go_sem, *]; try rfl); (· rfl); simp only [putA]) | (apply x_callA []; (· simp only [go_sem, *]; try rfl); (· rfl); (· simp only [go_sem, *]; try rfl); (· rfl); (iterate 2 (· simp only [go_sem, *]; try rfl)); (first | apply hs); simp only [afterCall, putA]) | (apply x_panic; (· simp only [go_sem, *]; try rfl); (· rfl); (· simp only [go_sem, *]; try rfl)) | (apply x_step; (iterate 2 (· simp only [go_sem, *]; try rfl)); (· rfl); simp only [putA]) | (apply x_unwanted; (· simp only [go_sem, *]; try rfl); (· rfl); simp only [putA]) | (apply x_condT; (· simp only [go_sem, *]; try rfl)) | (apply x_condF; (· simp only [go_sem, *]; try rfl)) | (apply x_guardS; (· rfl); (fail_if_success (focus (show _ = some true; (· simp only [go_sem, *]; try rfl)))); (· simp only [go_sem, *]; try rfl); all_goals (intro hb; try simp only [Bool.not_eq_true', Bool.not_eq_false'] at hb)) | (apply x_condS; (· simp only [go_sem, *]; try rfl); all_goals (intro hb; try simp only [Bool.not_eq_true', Bool.not_eq_false'] at hb)) | (apply d_draw; (· exact mixed); (· simp only [List.size_toArray, List.length_cons, List.length_nil, Nat.reduceAdd]; try rfl)) | (apply d_done; (· decide +kernel)) | (apply a_0; (repeat (apply a_s; (· decide +kernel))); apply a_take; (· decide +kernel); (· first | exact qds_FPost | exact qds_RPost | exact qds_YB | assumption); (· rfl); (iterate 3 (· simp only [go_sem, *]; try rfl)); (· rfl); (· simp only [go_sem, *]; try rfl); simp only [putA]) | (apply a_0; (repeat (apply a_s; (· decide +kernel))); apply a_unw; (· decide +kernel); (· first | exact qds_FPost | exact qds_RPost | exact qds_YB | assumption); (· rfl); (iterate 2 (· simp only [go_sem, *]; try rfl)); (· rfl); simp only [putA]) | (apply a_0; (repeat (apply a_o; (· decide +kernel))); apply a_one; (· decide +kernel)) | (apply o_step; (iterate 3 (· simp only [go_sem, *]; try rfl)); (· rfl); simp only [putA]) | (apply o_unw; (iterate 2 (· simp only [go_sem, *]; try rfl)); (· rfl); simp only [putA]) | apply pr_nil | apply pr_same | apply pr_go | apply pl_nil | apply pl_none | (apply pl_skip; (· decide +kernel)) | (apply pl_one; (· simp only [go_sem, *]; try rfl)) | (apply o_call []; (iterate 2 (· simp only [go_sem, *]; try rfl)); (· rfl); (· simp only [go_sem, *]; try rfl); (· rfl); (iterate 2 (· simp only [go_sem, *]; try rfl)); (first | apply hs); simp only [afterOp, putA]) | fail
          (apply f_ret; iterate 7 (· simp only [go_sem, *, Tryz.results116]; try rfl))
          exact h
    · have d1 : decide ((L : Int) ≤ (M : Int)) = false := by simp; omega
      simp only [decide_eq_false c1, Bool.true_and, Bool.false_and, Bool.and_true, Bool.not_true, Bool.not_false, Bool.and_false] at h
      clear hM c1
      refine enter Tryz.func116 rfl (by decide +kernel) (by rw [Tryz.ntmps116]; simp) (by rw [Tryz.ntmps116]; decide) (fun hO => ?_); rw [Tryz.ntmps116]
      repeat' first | apply x_seq | apply x_skip | apply x_block | apply x_exit | apply x_ret | apply x_ops_nil | apply p_blk | apply p_exit_it | apply p_exit_hit | apply p_ret_it | apply p_ret_blk | apply p_panic_it | apply p_panic_blk | apply p_end | (apply p_exit_miss; (· rfl)) | (apply x_region; simp only [List.toList_toArray]) | (apply x_step0; (· rfl); (· simp only [go_sem, *]; try rfl); (· rfl); simp only [putA]) | (apply x_callA []; (· simp only [go_sem, *]; try rfl); (· rfl); (· simp only [go_sem, *]; try rfl); (· rfl); (iterate 2 (· simp only [go_sem, *]; try rfl)); (first | apply hs); simp only [afterCall, putA]) | (apply x_panic; (· simp only [go_sem, *]; try rfl); (· rfl); (· simp only [go_sem, *]; try rfl)) | (apply x_step; (iterate 2 (· simp only [go_sem, *]; try rfl)); (· rfl); simp only [putA]) | (apply x_unwanted; (· simp only [go_sem, *]; try rfl); (· rfl); simp only [putA]) | (apply x_condT; (· simp only [go_sem, *]; try rfl)) | (apply x_condF; (· simp only [go_sem, *]; try rfl)) | (apply x_guardS; (· rfl); (fail_if_success (focus (show _ = some true; (· simp only [go_sem, *]; try rfl)))); (· simp only [go_sem, *]; try rfl); all_goals (intro hb; try simp only [Bool.not_eq_true', Bool.not_eq_false'] at hb)) | (apply x_condS; (· simp only [go_sem, *]; try rfl); all_goals (intro hb; try simp only [Bool.not_eq_true', Bool.not_eq_false'] at hb)) | (apply d_draw; (· exact mixed); (· simp only [List.size_toArray, List.length_cons, List.length_nil, Nat.reduceAdd]; try rfl)) | (apply d_done; (· decide +kernel)) | (apply a_0; (repeat (apply a_s; (· decide +kernel))); apply a_take; (· decide +kernel); (· first | exact qds_FPost | exact qds_RPost | exact qds_YB | assumption); (· rfl); (iterate 3 (· simp only [go_sem, *]; try rfl)); (· rfl); (· simp only [go_sem, *]; try rfl); simp only [putA]) | (apply a_0; (repeat (apply a_s; (· decide +kernel))); apply a_unw; (· decide +kernel); (· first | exact qds_FPost | exact qds_RPost | exact qds_YB | assumption); (· rfl); (iterate 2 (· simp only [go_sem, *]; try rfl)); (· rfl); simp only [putA]) | (apply a_0; (repeat (apply a_o; (· decide +kernel))); apply a_one; (· decide +kernel)) | (apply o_step; (iterate 3 (· simp only [go_sem, *]; try rfl)); (· rfl); simp only [putA]) | (apply o_unw; (iterate 2 (· simp only [go_sem, *]; try rfl)); (· rfl); simp only [putA]) | apply pr_nil | apply pr_same | apply pr_go | apply pl_nil | apply pl_none | (apply pl_skip; (· decide +kernel)) | (apply pl_one; (· simp only [go_sem, *]; try rfl)) | (apply o_call []; (iterate 2 (· simp only [go_sem, *]; try rfl)); (· rfl); (· simp only [go_sem, *]; try rfl); (· rfl); (iterate 2 (· simp only [go_sem, *]; try rfl)); (first | apply hs); simp only [afterOp, putA]) | fail
      (apply f_ret; iterate 7 (· simp only [go_sem, *, Tryz.results116]; try rfl))
      exact h
  · have e0 : (((3 : Nat) : Int) == 0) = false := rfl
    obtain ⟨L, hL⟩ : ∃ L, max lo 2048 = L := ⟨_, rfl⟩
    obtain ⟨M, hM⟩ : ∃ M, min hi 65535 = M := ⟨_, rfl⟩
    rw [hL, hM] at h
    have m1 : (if (2048 : Int) > (lo : Int) then (2048 : Int) else (lo : Int)) = (L : Int) := by rw [← hL]; split <;> omega
    have m2 : (if (65535 : Int) < (hi : Int) then (65535 : Int) else (hi : Int)) = (M : Int) := by rw [← hM]; split <;> omega
    replace hM : M ≤ 65535 := by omega
    clear hL
    by_cases c1 : L ≤ M
    · have d1 : decide ((L : Int) ≤ (M : Int)) = true := by simp; omega
      by_cases c2 : 55296 ≤ L
      · have d2 : decide ((55296 : Int) ≤ (L : Int)) = true := by simp; omega
        by_cases c3 : M ≤ 57343
        · have d3 : decide ((M : Int) ≤ 57343) = true := by simp; omega
          simp only [decide_eq_true c1, decide_eq_true c2, decide_eq_true c3, Bool.true_and, Bool.false_and, Bool.and_true, Bool.not_true, Bool.not_false, Bool.and_false] at h
          clear hM c1 c2 c3
          refine enter Tryz.func116 rfl (by decide +kernel) (by rw [Tryz.ntmps116]; simp) (by rw [Tryz.ntmps116]; decide) (fun hO => ?_); rw [Tryz.ntmps116]
          repeat' first | apply x_seq | apply x_skip | apply x_block | apply x_exit | apply x_ret | apply x_ops_nil | apply p_blk | apply p_exit_it | apply p_exit_hit | apply p_ret_it | apply p_ret_blk | apply p_panic_it | apply p_panic_blk | apply p_end | (apply p_exit_miss; (· rfl)) | (apply x_region; simp only [List.toList_toArray]) | (apply x_step0; (· rfl); (· simp only [go_sem, *]; try rfl); (· rfl); simp only [putA]) | (apply x_callA []; (· simp only [go_sem, *]; try rfl); (· rfl); (· simp only [go_sem, *]; try rfl); (· rfl); (iterate 2 (· simp only [go_sem, *]; try rfl)); (first | apply hs); simp only [afterCall, putA]) | (apply x_panic; (· simp only [go_sem, *]; try rfl); (· rfl); (· simp only [go_sem, *]; try rfl)) | (apply x_step; (iterate 2 (· simp only [go_sem, *]; try rfl)); (· rfl); simp only [putA]) | (apply x_unwanted; (· simp only [go_sem, *]; try rfl); (· rfl); simp only [putA]) | (apply x_condT; (· simp only [go_sem, *]; try rfl)) | (apply x_condF; (· simp only [go_sem, *]; try rfl)) | (apply x_guardS; (· rfl); (fail_if_success (focus (show _ = some true; (· simp only [go_sem, *]; try rfl)))); (· simp only [go_sem, *]; try rfl); all_goals (intro hb; try simp only [Bool.not_eq_true', Bool.not_eq_false'] at hb)) | (apply x_condS; (· simp only [go_sem, *]; try rfl); all_goals (intro hb; try simp only [Bool.not_eq_true', Bool.not_eq_false'] at hb)) | (apply d_draw; (· exact mixed); (· simp only [List.size_toArray, List.length_cons, List.length_nil, Nat.reduceAdd]; try rfl)) | (apply d_done; (· decide +kernel)) | (apply a_0; (repeat (apply a_s; (· decide +kernel))); apply a_take; (· decide +kernel); (· first | exact qds_FPost | exact qds_RPost | exact qds_YB | assumption); (· rfl); (iterate 3 (· simp only [go_sem, *]; try rfl)); (· rfl); (· simp only [go_sem, *]; try rfl); simp only [putA]) | (apply a_0; (repeat (apply a_s; (· decide +kernel))); apply a_unw; (· decide +kernel); (· first | exact qds_FPost | exact qds_RPost | exact qds_YB | assumption); (· rfl); (iterate 2 (· simp only [go_sem, *]; try rfl)); (· rfl); simp only [putA]) | (apply a_0; (repeat (apply a_o; (· decide +kernel))); apply a_one; (· decide +kernel)) | (apply o_step; (iterate 3 (· simp only [go_sem, *]; try rfl)); (· rfl); simp only [putA]) | (apply o_unw; (iterate 2 (· simp only [go_sem, *]; try rfl)); (· rfl); simp only [putA]) | apply pr_nil | apply pr_same | apply pr_go | apply pl_nil | apply pl_none | (apply pl_skip; (· decide +kernel)) | (apply pl_one; (· simp only [go_sem, *]; try rfl)) | (apply o_call []; (iterate 2 (· simp only [go_sem, *]; try rfl)); (· rfl); (· simp only [go_sem, *]; try rfl); (· rfl); (iterate 2 (· simp only [go_sem, *]; try rfl)); (first | apply hs); simp only [afterOp, putA]) | fail
          (apply f_ret; iterate 7 (· simp only [go_sem, *, Tryz.results116]; try rfl))
          exact h
        · have d3 : decide ((M : Int) ≤ 57343) = false := by simp; omega
          by_cases c4 : p.length = 3
          · have d4 : ((p.length : Int) == ((3 : Nat) : Int)) = true := by rw [beq_iff_eq]; omega
            simp only [decide_eq_true c1, decide_eq_true c2, decide_eq_false c3, decide_eq_true c4, Bool.true_and, Bool.false_and, Bool.and_true, Bool.not_true, Bool.not_false, Bool.and_false] at h
            clear hM c1 c2 c3 c4
            refine enter Tryz.func116 rfl (by decide +kernel) (by rw [Tryz.ntmps116]; simp) (by rw [Tryz.ntmps116]; decide) (fun hO => ?_); rw [Tryz.ntmps116]
            repeat' first | apply x_seq | apply x_skip | apply x_block | apply x_exit | apply x_ret | apply x_ops_nil | apply p_blk | apply p_exit_it | apply p_exit_hit | apply p_ret_it | apply p_ret_blk | apply p_panic_it | apply p_panic_blk | apply p_end | (apply p_exit_miss; (· rfl)) | (apply x_region; simp only [List.toList_toArray]) | (apply x_step0; (· rfl); (· simp only [go_sem, *]; try rfl); (· rfl); simp only [putA]) | (apply x_callA []; (· simp only [go_sem, *]; try rfl); (· rfl); (· simp only [go_sem, *]; try rfl); (· rfl); (iterate 2 (· simp only [go_sem, *]; try rfl)); (first | apply hs); simp only [afterCall, putA]) | (apply x_panic; (· simp only [go_sem, *]; try rfl); (· rfl); (· simp only [go_sem, *]; try rfl)) | (apply x_step; (iterate 2 (· simp only [go_sem, *]; try rfl)); (· rfl); simp only [putA]) | (apply x_unwanted; (· simp only [go_sem, *]; try rfl); (· rfl); simp only [putA]) | (apply x_condT; (· simp only [go_sem, *]; try rfl)) | (apply x_condF; (· simp only [go_sem, *]; try rfl)) | (apply x_guardS; (· rfl); (fail_if_success (focus (show _ = some true; (· simp only [go_sem, *]; try rfl)))); (· simp only [go_sem, *]; try rfl); all_goals (intro hb; try simp only [Bool.not_eq_true', Bool.not_eq_false'] at hb)) | (apply x_condS; (· simp only [go_sem, *]; try rfl); all_goals (intro hb; try simp only [Bool.not_eq_true', Bool.not_eq_false'] at hb)) | (apply d_draw; (· exact mixed); (· simp only [List.size_toArray, List.length_cons, List.length_nil, Nat.reduceAdd]; try rfl)) | (apply d_done; (· decide +kernel)) | (apply a_0; (repeat (apply a_s; (· decide +kernel))); apply a_take; (· decide +kernel); (· first | exact qds_FPost | exact qds_RPost | exact qds_YB | assumption); (· rfl); (iterate 3 (· simp only [go_sem, *]; try rfl)); (· rfl); (· simp only [go_sem, *]; try rfl); simp only [putA]) | (apply a_0; (repeat (apply a_s; (· decide +kernel))); apply a_unw; (· decide +kernel); (· first | exact qds_FPost | exact qds_RPost | exact qds_YB | assumption); (· rfl); (iterate 2 (· simp only [go_sem, *]; try rfl)); (· rfl); simp only [putA]) | (apply a_0; (repeat (apply a_o; (· decide +kernel))); apply a_one; (· decide +kernel)) | (apply o_step; (iterate 3 (· simp only [go_sem, *]; try rfl)); (· rfl); simp only [putA]) | (apply o_unw; (iterate 2 (· simp only [go_sem, *]; try rfl)); (· rfl); simp only [putA]) | apply pr_nil | apply pr_same | apply pr_go | apply pl_nil | apply pl_none | (apply pl_skip; (· decide +kernel)) | (apply pl_one; (· simp only [go_sem, *]; try rfl)) | (apply o_call []; (iterate 2 (· simp only [go_sem, *]; try rfl)); (· rfl); (· simp only [go_sem, *]; try rfl); (· rfl); (iterate 2 (· simp only [go_sem, *]; try rfl)); (first | apply hs); simp only [afterOp, putA]) | fail
            (apply f_ret; iterate 7 (· simp only [go_sem, *, Tryz.results116]; try rfl))
            exact h
          · have d4 : ((p.length : Int) == ((3 : Nat) : Int)) = false := by rw [beq_eq_false_iff_ne]; omega
            simp only [decide_eq_true c1, decide_eq_true c2, decide_eq_false c3, decide_eq_false c4, Bool.true_and, Bool.false_and, Bool.and_true, Bool.not_true, Bool.not_false, Bool.and_false] at h
            clear hM c1 c2 c3 c4
            refine enter Tryz.func116 rfl (by decide +kernel) (by rw [Tryz.ntmps116]; simp) (by rw [Tryz.ntmps116]; decide) (fun hO => ?_); rw [Tryz.ntmps116]
            repeat' first | apply x_seq | apply x_skip | apply x_block | apply x_exit | apply x_ret | apply x_ops_nil | apply p_blk | apply p_exit_it | apply p_exit_hit | apply p_ret_it | apply p_ret_blk | apply p_panic_it | apply p_panic_blk | apply p_end | (apply p_exit_miss; (· rfl)) | (apply x_region; simp only [List.toList_toArray]) | (apply x_step0; (· rfl); (· simp only [go_sem, *]; try rfl); (· rfl); simp only [putA]) | (apply x_callA []; (· simp only [go_sem, *]; try rfl); (· rfl); (· simp only [go_sem, *]; try rfl); (· rfl); (iterate 2 (· simp only [go_sem, *]; try rfl)); (first | apply hs); simp only [afterCall, putA]) | (apply x_panic; (· simp only [go_sem, *]; try rfl); (· rfl); (· simp only [go_sem, *]; try rfl)) | (apply x_step; (iterate 2 (· simp only [go_sem, *]; try rfl)); (· rfl); simp only [putA]) | (apply x_unwanted; (· simp only [go_sem, *]; try rfl); (· rfl); simp only [putA]) | (apply x_condT; (· simp only [go_sem, *]; try rfl)) | (apply x_condF; (· simp only [go_sem, *]; try rfl)) | (apply x_guardS; (· rfl); (fail_if_success (focus (show _ = some true; (· simp only [go_sem, *]; try rfl)))); (· simp only [go_sem, *]; try rfl); all_goals (intro hb; try simp only [Bool.not_eq_true', Bool.not_eq_false'] at hb)) | (apply x_condS; (· simp only [go_sem, *]; try rfl); all_goals (intro hb; try simp only [Bool.not_eq_true', Bool.not_eq_false'] at hb)) | (apply d_draw; (· exact mixed); (· simp only [List.size_toArray, List.length_cons, List.length_nil, Nat.reduceAdd]; try rfl)) | (apply d_done; (· decide +kernel)) | (apply a_0; (repeat (apply a_s; (· decide +kernel))); apply a_take; (· decide +kernel); (· first | exact qds_FPost | exact qds_RPost | exact qds_YB | assumption); (· rfl); (iterate 3 (· simp only [go_sem, *]; try rfl)); (· rfl); (· simp only [go_sem, *]; try rfl); simp only [putA]) | (apply a_0; (repeat (apply a_s; (· decide +kernel))); apply a_unw; (· decide +kernel); (· first | exact qds_FPost | exact qds_RPost | exact qds_YB | assumption); (· rfl); (iterate 2 (· simp only [go_sem, *]; try rfl)); (· rfl); simp only [putA]) | (apply a_0; (repeat (apply a_o; (· decide +kernel))); apply a_one; (· decide +kernel)) | (apply o_step; (iterate 3 (· simp only [go_sem, *]; try rfl)); (· rfl); simp only [putA]) | (apply o_unw; (iterate 2 (· simp only [go_sem, *]; try rfl)); (· rfl); simp only [putA]) | apply pr_nil | apply pr_same | apply pr_go | apply pl_nil | apply pl_none | (apply pl_skip; (· decide +kernel)) | (apply pl_one; (· simp only [go_sem, *]; try rfl)) | (apply o_call []; (iterate 2 (· simp only [go_sem, *]; try rfl)); (· rfl); (· simp only [go_sem, *]; try rfl); (· rfl); (iterate 2 (· simp only [go_sem, *]; try rfl)); (first | apply hs); simp only [afterOp, putA]) | fail
            (apply f_ret; iterate 7 (· simp only [go_sem, *, Tryz.results116]; try rfl))
            exact h
      · have d2 : decide ((55296 : Int) ≤ (L : Int)) = false := by simp; omega
        by_cases c4 : p.length = 3
        · have d4 : ((p.length : Int) == ((3 : Nat) : Int)) = true := by rw [beq_iff_eq]; omega
          simp only [decide_eq_true c1, decide_eq_false c2, decide_eq_true c4, Bool.true_and, Bool.false_and, Bool.and_true, Bool.not_true, Bool.not_false, Bool.and_false] at h
          clear hM c1 c2 c4
          refine enter Tryz.func116 rfl (by decide +kernel) (by rw [Tryz.ntmps116]; simp) (by rw [Tryz.ntmps116]; decide) (fun hO => ?_); rw [Tryz.ntmps116]
          repeat' first | apply x_seq | apply x_skip | apply x_block | apply x_exit | apply x_ret | apply x_ops_nil | apply p_blk | apply p_exit_it | apply p_exit_hit | apply p_ret_it | apply p_ret_blk | apply p_panic_it | apply p_panic_blk | apply p_end | (apply p_exit_miss; (· rfl)) | (apply x_region; simp only [List.toList_toArray]) | (apply x_step0; (· rfl); (· simp only [go_sem, *]; try rfl); (· rfl); simp only [putA]) | (apply x_callA []; (· simp only [go_sem, *]; try rfl); (· rfl); (· simp only [go_sem, *]; try rfl); (· rfl); (iterate 2 (· simp only [go_sem, *]; try rfl)); (first | apply hs); simp only [afterCall, putA]) | (apply x_panic; (· simp only [go_sem, *]; try rfl); (· rfl); (· simp only [go_sem, *]; try rfl)) | (apply x_step; (iterate 2 (· simp only [go_sem, *]; try rfl)); (· rfl); simp only [putA]) | (apply x_unwanted; (· simp only [go_sem, *]; try rfl); (· rfl); simp only [putA]) | (apply x_condT; (· simp only [go_sem, *]; try rfl)) | (apply x_condF; (· simp only [go_sem, *]; try rfl)) | (apply x_guardS; (· rfl); (fail_if_success (focus (show _ = some true; (· simp only [go_sem, *]; try rfl)))); (· simp only [go_sem, *]; try rfl); all_goals (intro hb; try simp only [Bool.not_eq_true', Bool.not_eq_false'] at hb)) | (apply x_condS; (· simp only [go_sem, *]; try rfl); all_goals (intro hb; try simp only [Bool.not_eq_true', Bool.not_eq_false'] at hb)) | (apply d_draw; (· exact mixed); (· simp only [List.size_toArray, List.length_cons, List.length_nil, Nat.reduceAdd]; try rfl)) | (apply d_done; (· decide +kernel)) | (apply a_0; (repeat (apply a_s; (· decide +kernel))); apply a_take; (· decide +kernel); (· first | exact qds_FPost | exact qds_RPost | exact qds_YB | assumption); (· rfl); (iterate 3 (· simp only [go_sem, *]; try rfl)); (· rfl); (· simp only [go_sem, *]; try rfl); simp only [putA]) | (apply a_0; (repeat (apply a_s; (· decide +kernel))); apply a_unw; (· decide +kernel); (· first | exact qds_FPost | exact qds_RPost | exact qds_YB | assumption); (· rfl); (iterate 2 (· simp only [go_sem, *]; try rfl)); (· rfl); simp only [putA]) | (apply a_0; (repeat (apply a_o; (· decide +kernel))); apply a_one; (· decide +kernel)) | (apply o_step; (iterate 3 (· simp only [go_sem, *]; try rfl)); (· rfl); simp only [putA]) | (apply o_unw; (iterate 2 (· simp only [go_sem, *]; try rfl)); (· rfl); simp only [putA]) | apply pr_nil | apply pr_same | apply pr_go | apply pl_nil | apply pl_none | (apply pl_skip; (· decide +kernel)) | (apply pl_one; (· simp only [go_sem, *]; try rfl)) | (apply o_call []; (iterate 2 (· simp only [go_sem, *]; try rfl)); (· rfl); (· simp only [go_sem, *]; try rfl); (· rfl); (iterate 2 (· simp only [go_sem, *]; try rfl)); (first | apply hs); simp only [afterOp, putA]) | fail
          (apply f_ret; iterate 7 (· simp only [go_sem, *, Tryz.results116]; try rfl))
          exact h
        · have d4 : ((p.length : Int) == ((3 : Nat) : Int)) = false := by rw [beq_eq_false_iff_ne]; omega
          simp only [decide_eq_true c1, decide_eq_false c2, decide_eq_false c4, Bool.true_and, Bool.false_and, Bool.and_true, Bool.not_true, Bool.not_false, Bool.and_false] at h
          clear hM c1 c2 c4
          refine enter Tryz.func116 rfl (by decide +kernel) (by rw [Tryz.ntmps116]; simp) (by rw [Tryz.ntmps116]; decide) (fun hO => ?_); rw [Tryz.ntmps116]
          repeat' first | apply x_seq | apply x_skip | apply x_block | apply x_exit | apply x_ret | apply x_ops_nil | apply p_blk | apply p_exit_it | apply p_exit_hit | apply p_ret_it | apply p_ret_blk | apply p_panic_it | apply p_panic_blk | apply p_end | (apply p_exit_miss; (· rfl)) | (apply x_region; simp only [List.toList_toArray]) | (apply x_step0; (· rfl); (· simp only [go_sem, *]; try rfl); (· rfl); simp only [putA]) | (apply x_callA []; (· simp only [go_sem, *]; try rfl); (· rfl); (· simp only [go_sem, *]; try rfl); (· rfl); (iterate 2 (· simp only [go_sem, *]; try rfl)); (first | apply hs); simp only [afterCall, putA]) | (apply x_panic; (· simp only [go_sem, *]; try rfl); (· rfl); (· simp only [go_sem, *]; try rfl)) | (apply x_step; (iterate 2 (· simp only [go_sem, *]; try rfl)); (· rfl); simp only [putA]) | (apply x_unwanted; (· simp only [go_sem, *]; try rfl); (· rfl); simp only [putA]) | (apply x_condT; (· simp only [go_sem, *]; try rfl)) | (apply x_condF; (· simp only [go_sem, *]; try rfl)) | (apply x_guardS; (· rfl); (fail_if_success (focus (show _ = some true; (· simp only [go_sem, *]; try rfl)))); (· simp only [go_sem, *]; try rfl); all_goals (intro hb; try simp only [Bool.not_eq_true', Bool.not_eq_false'] at hb)) | (apply x_condS; (· simp only [go_sem, *]; try rfl); all_goals (intro hb; try simp only [Bool.not_eq_true', Bool.not_eq_false'] at hb)) | (apply d_draw; (· exact mixed); (· simp only [List.size_toArray, List.length_cons, List.length_nil, Nat.reduceAdd]; try rfl)) | (apply d_done; (· decide +kernel)) | (apply a_0; (repeat (apply a_s; (· decide +kernel))); apply a_take; (· decide +kernel); (· first | exact qds_FPost | exact qds_RPost | exact qds_YB | assumption); (· rfl); (iterate 3 (· simp only [go_sem, *]; try rfl)); (· rfl); (· simp only [go_sem, *]; try rfl); simp only [putA]) | (apply a_0; (repeat (apply a_s; (· decide +kernel))); apply a_unw; (· decide +kernel); (· first | exact qds_FPost | exact qds_RPost | exact qds_YB | assumption); (· rfl); (iterate 2 (· simp only [go_sem, *]; try rfl)); (· rfl); simp only [putA]) | (apply a_0; (repeat (apply a_o; (· decide +kernel))); apply a_one; (· decide +kernel)) | (apply o_step; (iterate 3 (· simp only [go_sem, *]; try rfl)); (· rfl); simp only [putA]) | (apply o_unw; (iterate 2 (· simp only [go_sem, *]; try rfl)); (· rfl); simp only [putA]) | apply pr_nil | apply pr_same | apply pr_go | apply pl_nil | apply pl_none | (apply pl_skip; (· decide +kernel)) | (apply pl_one; (· simp only [go_sem, *]; try rfl)) | (apply o_call []; (iterate 2 (· simp only [go_sem, *]; try rfl)); (· rfl); (· simp only [go_sem, *]; try rfl); (· rfl); (iterate 2 (· simp only [go_sem, *]; try rfl)); (first | apply hs); simp only [afterOp, putA]) | fail
          (apply f_ret; iterate 7 (· simp only [go_sem, *, Tryz.results116]; try rfl))
          exact h
    · have d1 : decide ((L : Int) ≤ (M : Int)) = false := by simp; omega
      simp only [decide_eq_false c1, Bool.true_and, Bool.false_and, Bool.and_true, Bool.not_true, Bool.not_false, Bool.and_false] at h
      clear hM c1
      refine enter Tryz.func116 rfl (by decide +kernel) (by rw [Tryz.ntmps116]; simp) (by rw [Tryz.ntmps116]; decide) (fun hO => ?_); rw [Tryz.ntmps116]
      repeat' first | apply x_seq | apply x_skip | apply x_block | apply x_exit | apply x_ret | apply x_ops_nil | apply p_blk | apply p_exit_it | apply p_exit_hit | apply p_ret_it | apply p_ret_blk | apply p_panic_it | apply p_panic_blk | apply p_end | (apply p_exit_miss; (· rfl)) | (apply x_region; simp only [List.toList_toArray]) | (apply x_step0; (· rfl); (· simp only [go_sem, *]; try rfl); (· rfl); simp only [putA]) | (apply x_callA []; (· simp only [go_sem, *]; try rfl); (· rfl); (· simp only [go_sem, *]; try rfl); (· rfl); (iterate 2 (· simp only [go_sem, *]; try rfl)); (first | apply hs); simp only [afterCall, putA]) | (apply x_panic; (· simp only [go_sem, *]; try rfl); (· rfl); (· simp only [go_sem, *]; try rfl)) | (apply x_step; (iterate 2 (· simp only [go_sem, *]; try rfl)); (· rfl); simp only [putA]) | (apply x_unwanted; (· simp only [go_sem, *]; try rfl); (· rfl); simp only [putA]) | (apply x_condT; (· simp only [go_sem, *]; try rfl)) | (apply x_condF; (· simp only [go_sem, *]; try rfl)) | (apply x_guardS; (· rfl); (fail_if_success (focus (show _ = some true; (· simp only [go_sem, *]; try rfl)))); (· simp only [go_sem, *]; try rfl); all_goals (intro hb; try simp only [Bool.not_eq_true', Bool.not_eq_false'] at hb)) | (apply x_condS; (· simp only [go_sem, *]; try rfl); all_goals (intro hb; try simp only [Bool.not_eq_true', Bool.not_eq_false'] at hb)) | (apply d_draw; (· exact mixed); (· simp only [List.size_toArray, List.length_cons, List.length_nil, Nat.reduceAdd]; try rfl)) | (apply d_done; (· decide +kernel)) | (apply a_0; (repeat (apply a_s; (· decide +kernel))); apply a_take; (· decide +kernel); (· first | exact qds_FPost | exact qds_RPost | exact qds_YB | assumption); (· rfl); (iterate 3 (· simp only [go_sem, *]; try rfl)); (· rfl); (· simp only [go_sem, *]; try rfl); simp only [putA]) | (apply a_0; (repeat (apply a_s; (· decide +kernel))); apply a_unw; (· decide +kernel); (· first | exact qds_FPost | exact qds_RPost | exact qds_YB | assumption); (· rfl); (iterate 2 (· simp only [go_sem, *]; try rfl)); (· rfl); simp only [putA]) | (apply a_0; (repeat (apply a_o; (· decide +kernel))); apply a_one; (· decide +kernel)) | (apply o_step; (iterate 3 (· simp only [go_sem, *]; try rfl)); (· rfl); simp only [putA]) | (apply o_unw; (iterate 2 (· simp only [go_sem, *]; try rfl)); (· rfl); simp only [putA]) | apply pr_nil | apply pr_same | apply pr_go | apply pl_nil | apply pl_none | (apply pl_skip; (· decide +kernel)) | (apply pl_one; (· simp only [go_sem, *]; try rfl)) | (apply o_call []; (iterate 2 (· simp only [go_sem, *]; try rfl)); (· rfl); (· simp only [go_sem, *]; try rfl); (· rfl); (iterate 2 (· simp only [go_sem, *]; try rfl)); (first | apply hs); simp only [afterOp, putA]) | fail
      (apply f_ret; iterate 7 (· simp only [go_sem, *, Tryz.results116]; try rfl))
      exact h
  · have e0 : (((4 : Nat) : Int) == 0) = false := rfl
    obtain ⟨L, hL⟩ : ∃ L, max lo 65536 = L := ⟨_, rfl⟩
    obtain ⟨M, hM⟩ : ∃ M, min hi 1114111 = M := ⟨_, rfl⟩
    rw [hL, hM] at h
    have m1 : (if (65536 : Int) > (lo : Int) then (65536 : Int) else (lo : Int)) = (L : Int) := by rw [← hL]; split <;> omega
    have m2 : (if (1114111 : Int) < (hi : Int) then (1114111 : Int) else (hi : Int)) = (M : Int) := by rw [← hM]; split <;> omega
    replace hM : M ≤ 1114111 := by omega
    clear hL
    by_cases c1 : L ≤ M
    · have d1 : decide ((L : Int) ≤ (M : Int)) = true := by simp; omega
      by_cases c2 : 55296 ≤ L
      · have d2 : decide ((55296 : Int) ≤ (L : Int)) = true := by simp; omega
        by_cases c3 : M ≤ 57343
        · have d3 : decide ((M : Int) ≤ 57343) = true := by simp; omega
          simp only [decide_eq_true c1, decide_eq_true c2, decide_eq_true c3, Bool.true_and, Bool.false_and, Bool.and_true, Bool.not_true, Bool.not_false, Bool.and_false] at h
          clear hM c1 c2 c3
          refine enter Tryz.func116 rfl (by decide +kernel) (by rw [Tryz.ntmps116]; simp) (by rw [Tryz.ntmps116]; decide) (fun hO => ?_); rw [Tryz.ntmps116]
          repeat' first | apply x_seq | apply x_skip | apply x_block | apply x_exit | apply x_ret | apply x_ops_nil | apply p_blk | apply p_exit_it | apply p_exit_hit | apply p_ret_it | apply p_ret_blk | apply p_panic_it | apply p_panic_blk | apply p_end | (apply p_exit_miss; (· rfl)) | (apply x_region; simp only [List.toList_toArray]) | (apply x_step0; (· rfl); (· simp only [go_sem, *]; try rfl); (· rfl); simp only [putA]) | (apply x_callA []; (· simp only [go_sem, *]; try rfl); (· rfl); (· simp only [go_sem, *]; try rfl); (· rfl); (iterate 2 (· simp only [go_sem, *]; try rfl)); (first | apply hs); simp only [afterCall, putA]) | (apply x_panic; (· simp only [go_sem, *]; try rfl); (· rfl); (· simp only [go_sem, *]; try rfl)) | (apply x_step; (iterate 2 (· simp only [go_sem, *]; try rfl)); (· rfl); simp only [putA]) | (apply x_unwanted; (· simp only [go_sem, *]; try rfl); (· rfl); simp only [putA]) | (apply x_condT; (· simp only [go_sem, *]; try rfl)) | (apply x_condF; (· simp only [go_sem, *]; try rfl)) | (apply x_guardS; (· rfl); (fail_if_success (focus (show _ = some true; (· simp only [go_sem, *]; try rfl)))); (· simp only [go_sem, *]; try rfl); all_goals (intro hb; try simp only [Bool.not_eq_true', Bool.not_eq_false'] at hb)) | (apply x_condS; (· simp only [go_sem, *]; try rfl); all_goals (intro hb; try simp only [Bool.not_eq_true', Bool.not_eq_false'] at hb)) | (apply d_draw; (· exact mixed); (· simp only [List.size_toArray, List.length_cons, List.length_nil, Nat.reduceAdd]; try rfl)) | (apply d_done; (· decide +kernel)) | (apply a_0; (repeat (apply a_s; (· decide +kernel))); apply a_take; (· decide +kernel); (· first | exact qds_FPost | exact qds_RPost | exact qds_YB | assumption); (· rfl); (iterate 3 (· simp only [go_sem, *]; try rfl)); (· rfl); (· simp only [go_sem, *]; try rfl); simp only [putA]) | (apply a_0; (repeat (apply a_s; (· decide +kernel))); apply a_unw; (· decide +kernel); (· first | exact qds_FPost | exact qds_RPost | exact qds_YB | assumption); (· rfl); (iterate 2 (· simp only [go_sem, *]; try rfl)); (· rfl); simp only [putA]) | (apply a_0; (repeat (apply a_o; (· decide +kernel))); apply a_one; (· decide +kernel)) | (apply o_step; (iterate 3 (· simp only [go_sem, *]; try rfl)); (· rfl); simp only [putA]) | (apply o_unw; (iterate 2 (· simp only [go_sem, *]; try rfl)); (· rfl); simp only [putA]) | apply pr_nil | apply pr_same | apply pr_go | apply pl_nil | apply pl_none | (apply pl_skip; (· decide +kernel)) | (apply pl_one; (· simp only [go_sem, *]; try rfl)) | (apply o_call []; (iterate 2 (· simp only [go_sem, *]; try rfl)); (· rfl); (· simp only [go_sem, *]; try rfl); (· rfl); (iterate 2 (· simp only [go_sem, *]; try rfl)); (first | apply hs); simp only [afterOp, putA]) | fail
          (apply f_ret; iterate 7 (· simp only [go_sem, *, Tryz.results116]; try rfl))
          exact h
        · have d3 : decide ((M : Int) ≤ 57343) = false := by simp; omega
          by_cases c4 : p.length = 4
          · have d4 : ((p.length : Int) == ((4 : Nat) : Int)) = true := by rw [beq_iff_eq]; omega
            simp only [decide_eq_true c1, decide_eq_true c2, decide_eq_false c3, decide_eq_true c4, Bool.true_and, Bool.false_and, Bool.and_true, Bool.not_true, Bool.not_false, Bool.and_false] at h
            clear hM c1 c2 c3 c4
            refine enter Tryz.func116 rfl (by decide +kernel) (by rw [Tryz.ntmps116]; simp) (by rw [Tryz.ntmps116]; decide) (fun hO => ?_); rw [Tryz.ntmps116]
            repeat' first | apply x_seq | apply x_skip | apply x_block | apply x_exit | apply x_ret | apply x_ops_nil | apply p_blk | apply p_exit_it | apply p_exit_hit | apply p_ret_it | apply p_ret_blk | apply p_panic_it | apply p_panic_blk | apply p_end | (apply p_exit_miss; (· rfl)) | (apply x_region; simp only [List.toList_toArray]) | (apply x_step0; (· rfl); (· simp only [go_sem, *]; try rfl); (· rfl); simp only [putA]) | (apply x_callA []; (· simp only [go_sem, *]; try rfl); (· rfl); (· simp only [go_sem, *]; try rfl); (· rfl); (iterate 2 (· simp only [go_sem, *]; try rfl)); (first | apply hs); simp only [afterCall, putA]) | (apply x_panic; (· simp only [go_sem, *]; try rfl); (· rfl); (· simp only [go_sem, *]; try rfl)) | (apply x_step; (iterate 2 (· simp only [go_sem, *]; try rfl)); (· rfl); simp only [putA]) | (apply x_unwanted; (· simp only [go_sem, *]; try rfl); (· rfl); simp only [putA]) | (apply x_condT; (· simp only [go_sem, *]; try rfl)) | (apply x_condF; (· simp only [go_sem, *]; try rfl)) | (apply x_guardS; (· rfl); (fail_if_success (focus (show _ = some true; (· simp only [go_sem, *]; try rfl)))); (· simp only [go_sem, *]; try rfl); all_goals (intro hb; try simp only [Bool.not_eq_true', Bool.not_eq_false'] at hb)) | (apply x_condS; (· simp only [go_sem, *]; try rfl); all_goals (intro hb; try simp only [Bool.not_eq_true', Bool.not_eq_false'] at hb)) | (apply d_draw; (· exact mixed); (· simp only [List.size_toArray, List.length_cons, List.length_nil, Nat.reduceAdd]; try rfl)) | (apply d_done; (· decide +kernel)) | (apply a_0; (repeat (apply a_s; (· decide +kernel))); apply a_take; (· decide +kernel); (· first | exact qds_FPost | exact qds_RPost | exact qds_YB | assumption); (· rfl); (iterate 3 (· simp only [go_sem, *]; try rfl)); (· rfl); (· simp only [go_sem, *]; try rfl); simp only [putA]) | (apply a_0; (repeat (apply a_s; (· decide +kernel))); apply a_unw; (· decide +kernel); (· first | exact qds_FPost | exact qds_RPost | exact qds_YB | assumption); (· rfl); (iterate 2 (· simp only [go_sem, *]; try rfl)); (· rfl); simp only [putA]) | (apply a_0; (repeat (apply a_o; (· decide +kernel))); apply a_one; (· decide +kernel)) | (apply o_step; (iterate 3 (· simp only [go_sem, *]; try rfl)); (· rfl); simp only [putA]) | (apply o_unw; (iterate 2 (· simp only [go_sem, *]; try rfl)); (· rfl); simp only [putA]) | apply pr_nil | apply pr_same | apply pr_go | apply pl_nil | apply pl_none | (apply pl_skip; (· decide +kernel)) | (apply pl_one; (· simp only [go_sem, *]; try rfl)) | (apply o_call []; (iterate 2 (· simp only [go_sem, *]; try rfl)); (· rfl); (· simp only [go_sem, *]; try rfl); (· rfl); (iterate 2 (· simp only [go_sem, *]; try rfl)); (first | apply hs); simp only [afterOp, putA]) | fail
            (apply f_ret; iterate 7 (· simp only [go_sem, *, Tryz.results116]; try rfl))
            exact h
          · have d4 : ((p.length : Int) == ((4 : Nat) : Int)) = false := by rw [beq_eq_false_iff_ne]; omega
            simp only [decide_eq_true c1, decide_eq_true c2, decide_eq_false c3, decide_eq_false c4, Bool.true_and, Bool.false_and, Bool.and_true, Bool.not_true, Bool.not_false, Bool.and_false] at h
            clear hM c1 c2 c3 c4
            refine enter Tryz.func116 rfl (by decide +kernel) (by rw [Tryz.ntmps116]; simp) (by rw [Tryz.ntmps116]; decide) (fun hO => ?_); rw [Tryz.ntmps116]
            repeat' first | apply x_seq | apply x_skip | apply x_block | apply x_exit | apply x_ret | apply x_ops_nil | apply p_blk | apply p_exit_it | apply p_exit_hit | apply p_ret_it | apply p_ret_blk | apply p_panic_it | apply p_panic_blk | apply p_end | (apply p_exit_miss; (· rfl)) | (apply x_region; simp only [List.toList_toArray]) | (apply x_step0; (· rfl); (· simp only [go_sem, *]; try rfl); (· rfl); simp only [putA]) | (apply x_callA []; (· simp only [go_sem, *]; try rfl); (· rfl); (· simp only [go_sem, *]; try rfl); (· rfl); (iterate 2 (· simp only [go_sem, *]; try rfl)); (first | apply hs); simp only [afterCall, putA]) | (apply x_panic; (· simp only [go_sem, *]; try rfl); (· rfl); (· simp only [go_sem, *]; try rfl)) | (apply x_step; (iterate 2 (· simp only [go_sem, *]; try rfl)); (· rfl); simp only [putA]) | (apply x_unwanted; (· simp only [go_sem, *]; try rfl); (· rfl); simp only [putA]) | (apply x_condT; (· simp only [go_sem, *]; try rfl)) | (apply x_condF; (· simp only [go_sem, *]; try rfl)) | (apply x_guardS; (· rfl); (fail_if_success (focus (show _ = some true; (· simp only [go_sem, *]; try rfl)))); (· simp only [go_sem, *]; try rfl); all_goals (intro hb; try simp only [Bool.not_eq_true', Bool.not_eq_false'] at hb)) | (apply x_condS; (· simp only [go_sem, *]; try rfl); all_goals (intro hb; try simp only [Bool.not_eq_true', Bool.not_eq_false'] at hb)) | (apply d_draw; (· exact mixed); (· simp only [List.size_toArray, List.length_cons, List.length_nil, Nat.reduceAdd]; try rfl)) | (apply d_done; (· decide +kernel)) | (apply a_0; (repeat (apply a_s; (· decide +kernel))); apply a_take; (· decide +kernel); (· first | exact qds_FPost | exact qds_RPost | exact qds_YB | assumption); (· rfl); (iterate 3 (· simp only [go_sem, *]; try rfl)); (· rfl); (· simp only [go_sem, *]; try rfl); simp only [putA]) | (apply a_0; (repeat (apply a_s; (· decide +kernel))); apply a_unw; (· decide +kernel); (· first | exact qds_FPost | exact qds_RPost | exact qds_YB | assumption); (· rfl); (iterate 2 (· simp only [go_sem, *]; try rfl)); (· rfl); simp only [putA]) | (apply a_0; (repeat (apply a_o; (· decide +kernel))); apply a_one; (· decide +kernel)) | (apply o_step; (iterate 3 (· simp only [go_sem, *]; try rfl)); (· rfl); simp only [putA]) | (apply o_unw; (iterate 2 (· simp only [go_sem, *]; try rfl)); (· rfl); simp only [putA]) | apply pr_nil | apply pr_same | apply pr_go | apply pl_nil | apply pl_none | (apply pl_skip; (· decide +kernel)) | (apply pl_one; (· simp only [go_sem, *]; try rfl)) | (apply o_call []; (iterate 2 (· simp only [go_sem, *]; try rfl)); (· rfl); (· simp only [go_sem, *]; try rfl); (· rfl); (iterate 2 (· simp only [go_sem, *]; try rfl)); (first | apply hs); simp only [afterOp, putA]) | fail
            (apply f_ret; iterate 7 (· simp only [go_sem, *, Tryz.results116]; try rfl))
            exact h
      · have d2 : decide ((55296 : Int) ≤ (L : Int)) = false := by simp; omega
        by_cases c4 : p.length = 4
        · have d4 : ((p.length : Int) == ((4 : Nat) : Int)) = true := by rw [beq_iff_eq]; omega
          simp only [decide_eq_true c1, decide_eq_false c2, decide_eq_true c4, Bool.true_and, Bool.false_and, Bool.and_true, Bool.not_true, Bool.not_false, Bool.and_false] at h
          clear hM c1 c2 c4
          refine enter Tryz.func116 rfl (by decide +kernel) (by rw [Tryz.ntmps116]; simp) (by rw [Tryz.ntmps116]; decide) (fun hO => ?_); rw [Tryz.ntmps116]
          repeat' first | apply x_seq | apply x_skip | apply x_block | apply x_exit | apply x_ret | apply x_ops_nil | apply p_blk | apply p_exit_it | apply p_exit_hit | apply p_ret_it | apply p_ret_blk | apply p_panic_it | apply p_panic_blk | apply p_end | (apply p_exit_miss; (· rfl)) | (apply x_region; simp only [List.toList_toArray]) | (apply x_step0; (· rfl); (· simp only [go_sem, *]; try rfl); (· rfl); simp only [putA]) | (apply x_callA []; (· simp only [go_sem, *]; try rfl); (· rfl); (· simp only [go_sem, *]; try rfl); (· rfl); (iterate 2 (· simp only [go_sem, *]; try rfl)); (first | apply hs); simp only [afterCall, putA]) | (apply x_panic; (· simp only [go_sem, *]; try rfl); (· rfl); (· simp only [go_sem, *]; try rfl)) | (apply x_step; (iterate 2 (· simp only [go_sem, *]; try rfl)); (· rfl); simp only [putA]) | (apply x_unwanted; (· simp only [go_sem, *]; try rfl); (· rfl); simp only [putA]) | (apply x_condT; (· simp only [go_sem, *]; try rfl)) | (apply x_condF; (· simp only [go_sem, *]; try rfl)) | (apply x_guardS; (· rfl); (fail_if_success (focus (show _ = some true; (· simp only [go_sem, *]; try rfl)))); (· simp only [go_sem, *]; try rfl); all_goals (intro hb; try simp only [Bool.not_eq_true', Bool.not_eq_false'] at hb)) | (apply x_condS; (· simp only [go_sem, *]; try rfl); all_goals (intro hb; try simp only [Bool.not_eq_true', Bool.not_eq_false'] at hb)) | (apply d_draw; (· exact mixed); (· simp only [List.size_toArray, List.length_cons, List.length_nil, Nat.reduceAdd]; try rfl)) | (apply d_done; (· decide +kernel)) | (apply a_0; (repeat (apply a_s; (· decide +kernel))); apply a_take; (· decide +kernel); (· first | exact qds_FPost | exact qds_RPost | exact qds_YB | assumption); (· rfl); (iterate 3 (· simp only [go_sem, *]; try rfl)); (· rfl); (· simp only [go_sem, *]; try rfl); simp only [putA]) | (apply a_0; (repeat (apply a_s; (· decide +kernel))); apply a_unw; (· decide +kernel); (· first | exact qds_FPost | exact qds_RPost | exact qds_YB | assumption); (· rfl); (iterate 2 (· simp only [go_sem, *]; try rfl)); (· rfl); simp only [putA]) | (apply a_0; (repeat (apply a_o; (· decide +kernel))); apply a_one; (· decide +kernel)) | (apply o_step; (iterate 3 (· simp only [go_sem, *]; try rfl)); (· rfl); simp only [putA]) | (apply o_unw; (iterate 2 (· simp only [go_sem, *]; try rfl)); (· rfl); simp only [putA]) | apply pr_nil | apply pr_same | apply pr_go | apply pl_nil | apply pl_none | (apply pl_skip; (· decide +kernel)) | (apply pl_one; (· simp only [go_sem, *]; try rfl)) | (apply o_call []; (iterate 2 (· simp only [go_sem, *]; try rfl)); (· rfl); (· simp only [go_sem, *]; try rfl); (· rfl); (iterate 2 (· simp only [go_sem, *]; try rfl)); (first | apply hs); simp only [afterOp, putA]) | fail
          (apply f_ret; iterate 7 (· simp only [go_sem, *, Tryz.results116]; try rfl))
          exact h
        · have d4 : ((p.length : Int) == ((4 : Nat) : Int)) = false := by rw [beq_eq_false_iff_ne]; omega
          simp only [decide_eq_true c1, decide_eq_false c2, decide_eq_false c4, Bool.true_and, Bool.false_and, Bool.and_true, Bool.not_true, Bool.not_false, Bool.and_false] at h
          clear hM c1 c2 c4
          refine enter Tryz.func116 rfl (by decide +kernel) (by rw [Tryz.ntmps116]; simp) (by rw [Tryz.ntmps116]; decide) (fun hO => ?_); rw [Tryz.ntmps116]
          repeat' first | apply x_seq | apply x_skip | apply x_block | apply x_exit | apply x_ret | apply x_ops_nil | apply p_blk | apply p_exit_it | apply p_exit_hit | apply p_ret_it | apply p_ret_blk | apply p_panic_it | apply p_panic_blk | apply p_end | (apply p_exit_miss; (· rfl)) | (apply x_region; simp only [List.toList_toArray]) | (apply x_step0; (· rfl); (· simp only [go_sem, *]; try rfl); (· rfl); simp only [putA]) | (apply x_callA []; (· simp only [go_sem, *]; try rfl); (· rfl); (· simp only [go_sem, *]; try rfl); (· rfl); (iterate 2 (· simp only [go_sem, *]; try rfl)); (first | apply hs); simp only [afterCall, putA]) | (apply x_panic; (· simp only [go_sem, *]; try rfl); (· rfl); (· simp only [go_sem, *]; try rfl)) | (apply x_step; (iterate 2 (· simp only [go_sem, *]; try rfl)); (· rfl); simp only [putA]) | (apply x_unwanted; (· simp only [go_sem, *]; try rfl); (· rfl); simp only [putA]) | (apply x_condT; (· simp only [go_sem, *]; try rfl)) | (apply x_condF; (· simp only [go_sem, *]; try rfl)) | (apply x_guardS; (· rfl); (fail_if_success (focus (show _ = some true; (· simp only [go_sem, *]; try rfl)))); (· simp only [go_sem, *]; try rfl); all_goals (intro hb; try simp only [Bool.not_eq_true', Bool.not_eq_false'] at hb)) | (apply x_condS; (· simp only [go_sem, *]; try rfl); all_goals (intro hb; try simp only [Bool.not_eq_true', Bool.not_eq_false'] at hb)) | (apply d_draw; (· exact mixed); (· simp only [List.size_toArray, List.length_cons, List.length_nil, Nat.reduceAdd]; try rfl)) | (apply d_done; (· decide +kernel)) | (apply a_0; (repeat (apply a_s; (· decide +kernel))); apply a_take; (· decide +kernel); (· first | exact qds_FPost | exact qds_RPost | exact qds_YB | assumption); (· rfl); (iterate 3 (· simp only [go_sem, *]; try rfl)); (· rfl); (· simp only [go_sem, *]; try rfl); simp only [putA]) | (apply a_0; (repeat (apply a_s; (· decide +kernel))); apply a_unw; (· decide +kernel); (· first | exact qds_FPost | exact qds_RPost | exact qds_YB | assumption); (· rfl); (iterate 2 (· simp only [go_sem, *]; try rfl)); (· rfl); simp only [putA]) | (apply a_0; (repeat (apply a_o; (· decide +kernel))); apply a_one; (· decide +kernel)) | (apply o_step; (iterate 3 (· simp only [go_sem, *]; try rfl)); (· rfl); simp only [putA]) | (apply o_unw; (iterate 2 (· simp only [go_sem, *]; try rfl)); (· rfl); simp only [putA]) | apply pr_nil | apply pr_same | apply pr_go | apply pl_nil | apply pl_none | (apply pl_skip; (· decide +kernel)) | (apply pl_one; (· simp only [go_sem, *]; try rfl)) | (apply o_call []; (iterate 2 (· simp only [go_sem, *]; try rfl)); (· rfl); (· simp only [go_sem, *]; try rfl); (· rfl); (iterate 2 (· simp only [go_sem, *]; try rfl)); (first | apply hs); simp only [afterOp, putA]) | fail
          (apply f_ret; iterate 7 (· simp only [go_sem, *, Tryz.results116]; try rfl))
          exact h
    · have d1 : decide ((L : Int) ≤ (M : Int)) = false := by simp; omega
      simp only [decide_eq_false c1, Bool.true_and, Bool.false_and, Bool.and_true, Bool.not_true, Bool.not_false, Bool.and_false] at h
      clear hM c1
      refine enter Tryz.func116 rfl (by decide +kernel) (by rw [Tryz.ntmps116]; simp) (by rw [Tryz.ntmps116]; decide) (fun hO => ?_); rw [Tryz.ntmps116]
      repeat' first | apply x_seq | apply x_skip | apply x_block | apply x_exit | apply x_ret | apply x_ops_nil | apply p_blk | apply p_exit_it | apply p_exit_hit | apply p_ret_it | apply p_ret_blk | apply p_panic_it | apply p_panic_blk | apply p_end | (apply p_exit_miss; (· rfl)) | (apply x_region; simp only [List.toList_toArray]) | (apply x_step0; (· rfl); (· simp only [go_sem, *]; try rfl); (· rfl); simp only [putA]) | (apply x_callA []; (· simp only [go_sem, *]; try rfl); (· rfl); (· simp only [go_sem, *]; try rfl); (· rfl); (iterate 2 (· simp only [go_sem, *]; try rfl)); (first | apply hs); simp only [afterCall, putA]) | (apply x_panic; (· simp only [go_sem, *]; try rfl); (· rfl); (· simp only [go_sem, *]; try rfl)) | (apply x_step; (iterate 2 (· simp only [go_sem, *]; try rfl)); (· rfl); simp only [putA]) | (apply x_unwanted; (· simp only [go_sem, *]; try rfl); (· rfl); simp only [putA]) | (apply x_condT; (· simp only [go_sem, *]; try rfl)) | (apply x_condF; (· simp only [go_sem, *]; try rfl)) | (apply x_guardS; (· rfl); (fail_if_success (focus (show _ = some true; (· simp only [go_sem, *]; try rfl)))); (· simp only [go_sem, *]; try rfl); all_goals (intro hb; try simp only [Bool.not_eq_true', Bool.not_eq_false'] at hb)) | (apply x_condS; (· simp only [go_sem, *]; try rfl); all_goals (intro hb; try simp only [Bool.not_eq_true', Bool.not_eq_false'] at hb)) | (apply d_draw; (· exact mixed); (· simp only [List.size_toArray, List.length_cons, List.length_nil, Nat.reduceAdd]; try rfl)) | (apply d_done; (· decide +kernel)) | (apply a_0; (repeat (apply a_s; (· decide +kernel))); apply a_take; (· decide +kernel); (· first | exact qds_FPost | exact qds_RPost | exact qds_YB | assumption); (· rfl); (iterate 3 (· simp only [go_sem, *]; try rfl)); (· rfl); (· simp only [go_sem, *]; try rfl); simp only [putA]) | (apply a_0; (repeat (apply a_s; (· decide +kernel))); apply a_unw; (· decide +kernel); (· first | exact qds_FPost | exact qds_RPost | exact qds_YB | assumption); (· rfl); (iterate 2 (· simp only [go_sem, *]; try rfl)); (· rfl); simp only [putA]) | (apply a_0; (repeat (apply a_o; (· decide +kernel))); apply a_one; (· decide +kernel)) | (apply o_step; (iterate 3 (· simp only [go_sem, *]; try rfl)); (· rfl); simp only [putA]) | (apply o_unw; (iterate 2 (· simp only [go_sem, *]; try rfl)); (· rfl); simp only [putA]) | apply pr_nil | apply pr_same | apply pr_go | apply pl_nil | apply pl_none | (apply pl_skip; (· decide +kernel)) | (apply pl_one; (· simp only [go_sem, *]; try rfl)) | (apply o_call []; (iterate 2 (· simp only [go_sem, *]; try rfl)); (· rfl); (· simp only [go_sem, *]; try rfl); (· rfl); (iterate 2 (· simp only [go_sem, *]; try rfl)); (first | apply hs); simp only [afterOp, putA]) | fail
      (apply f_ret; iterate 7 (· simp only [go_sem, *, Tryz.results116]; try rfl))
      exact h
end Go.Proofs.YtfnnjkbhmoomjaaGreatDoor
namespace Go.Proofs.YtfnnjkbhmoomjaaGreatDoor
open Go Go.Fen
set_option linter.unusedSimpArgs false
set_option linter.unusedVariables false
attribute [local irreducible] RunX WP ACall AnyP OpA ProtL
set_option maxRecDepth 8000
theorem kind_012 (p : List Nat) : kindU p = 0 ∨ kindU p = 1 ∨ kindU p = 2 := by
  cases p with
  | nil => exact .inl rfl
  | cons a r =>
    simp only [kindU]
    repeat' split
    all_goals simp
set_option maxHeartbeats 1000000 in
theorem rRight (w0 : World) (S : List Blk) (p : List Nat) (hp : ∀ x ∈ p, x < 256) (h4 : p.length ≤ 4) (R : AOut → List Blk → Prop) (h : R (.ret (.bool (rightU p))) S) : ACall Tryz.prog w0 115 [.sval false (p.map By)] S R := by
  have hg := fun S' => rGoes w0 S' p hp h4
  rw [goes_kind] at hg
  by_cases he : p = []
  · subst he
    have h : R (.ret (.bool true)) S := h
    have hg : ∀ S' (R : AOut → List Blk → Prop), R (.ret (.tup [.bool false, .bool false])) S' → ACall Tryz.prog w0 116 [.sval false (List.map By [])] S' R := hg
    have e0 : (((0 : Nat) : Int) == 0) = true := rfl
    simp only [List.map_nil] at hg ⊢
    clear hp h4
    refine enter Tryz.func115 rfl (by decide +kernel) (by rw [Tryz.ntmps115]; simp) (by rw [Tryz.ntmps115]; decide) (fun hO => ?_); rw [Tryz.ntmps115]
    repeat' first | apply x_seq | apply x_skip | apply x_block | apply x_exit | apply x_ret | apply x_ops_nil | apply p_blk | apply p_exit_it | apply p_exit_hit | apply p_ret_it | apply p_ret_blk | apply p_panic_it | apply p_panic_blk | apply p_end | (apply p_exit_miss; (· rfl)) | (apply x_region; simp only [List.toList_toArray]) | (apply x_step0; (· rfl); (· simp only [go_sem, *]; try rfl); (· rfl); simp only [putA]) | (apply x_callA []; (· simp only [go_sem, *]; try rfl); (· rfl); (· simp only [go_sem, *]; try rfl); (· rfl); (iterate 2 (· simp only [go_sem, *]; try rfl)); (first | apply hg); simp only [afterCall, putA]) | (apply x_panic; (· simp only [go_sem, *]; try rfl); (· rfl); (· simp only [go_sem, *]; try rfl)) | (apply x_step; (iterate 2 (· simp only [go_sem, *]; try rfl)); (· rfl); simp only [putA]) | (apply x_unwanted; (· simp only [go_sem, *]; try rfl); (· rfl); simp only [putA]) | (apply x_condT; (· simp only [go_sem, *]; try rfl)) | (apply x_condF; (· simp only [go_sem, *]; try rfl)) | (apply x_guardS; (· rfl); (fail_if_success (focus (show _ = some true; (· simp only [go_sem, *]; try rfl)))); (· simp only [go_sem, *]; try rfl); all_goals (intro hb; try simp only [Bool.not_eq_true', Bool.not_eq_false'] at hb)) | (apply x_condS; (· simp only [go_sem, *]; try rfl); all_goals (intro hb; try simp only [Bool.not_eq_true', Bool.not_eq_false'] at hb)) | fail
    (apply f_ret; iterate 7 (· simp only [go_sem, *, Tryz.results115]; try rfl))
    exact h
  · have hl : ((p.length : Int) == 0) = false := by
      rw [beq_eq_false_iff_ne]
      intro e
      exact he (List.length_eq_zero_iff.1 (by omega))
    have hr : rightU p = decide (kindU p = 1) := by unfold rightU; rw [decide_eq_false he, Bool.false_or]
    rw [hr] at h
    have hk := kind_012 p
    generalize kindU p = kd at hg h hk
    clear he hp h4 hr
    rcases hk with rfl | rfl | rfl
    · have h : R (.ret (.bool false)) S := h
      have hg : ∀ S' (R : AOut → List Blk → Prop), R (.ret (.tup [.bool false, .bool false])) S' → ACall Tryz.prog w0 116 [.sval false (List.map By p)] S' R := hg
      refine enter Tryz.func115 rfl (by decide +kernel) (by rw [Tryz.ntmps115]; simp) (by rw [Tryz.ntmps115]; decide) (fun hO => ?_); rw [Tryz.ntmps115]
      repeat' first | apply x_seq | apply x_skip | apply x_block | apply x_exit | apply x_ret | apply x_ops_nil | apply p_blk | apply p_exit_it | apply p_exit_hit | apply p_ret_it | apply p_ret_blk | apply p_panic_it | apply p_panic_blk | apply p_end | (apply p_exit_miss; (· rfl)) | (apply x_region; simp only [List.toList_toArray]) | (apply x_step0; (· rfl); (· simp only [go_sem, *]; try rfl); (· rfl); simp only [putA]) | (apply x_callA []; (· simp only [go_sem, *]; try rfl); (· rfl); (· simp only [go_sem, *]; try rfl); (· rfl); (iterate 2 (· simp only [go_sem, *]; try rfl)); (first | apply hg); simp only [afterCall, putA]) | (apply x_panic; (· simp only [go_sem, *]; try rfl); (· rfl); (· simp only [go_sem, *]; try rfl)) | (apply x_step; (iterate 2 (· simp only [go_sem, *]; try rfl)); (· rfl); simp only [putA]) | (apply x_unwanted; (· simp only [go_sem, *]; try rfl); (· rfl); simp only [putA]) | (apply x_condT; (· simp only [go_sem, *]; try rfl)) | (apply x_condF; (· simp only [go_sem, *]; try rfl)) | (apply x_guardS; (· rfl); (fail_if_success (focus (show _ = some true; (· simp only [go_sem, *]; try rfl)))); (· simp only [go_sem, *]; try rfl); all_goals (intro hb; try simp only [Bool.not_eq_true', Bool.not_eq_false'] at hb)) | (apply x_condS; (· simp only [go_sem, *]; try rfl); all_goals (intro hb; try simp only [Bool.not_eq_true', Bool.not_eq_false'] at hb)) | fail
      (apply f_ret; iterate 7 (· simp only [go_sem, *, Tryz.results115]; try rfl))
      exact h
    · have h : R (.ret (.bool true)) S := h
      have hg : ∀ S' (R : AOut → List Blk → Prop), R (.ret (.tup [.bool true, .bool false])) S' → ACall Tryz.prog w0 116 [.sval false (List.map By p)] S' R := hg
      refine enter Tryz.func115 rfl (by decide +kernel) (by rw [Tryz.ntmps115]; simp) (by rw [Tryz.ntmps115]; decide) (fun hO => ?_); rw [Tryz.ntmps115]
      repeat' first | apply x_seq | apply x_skip | apply x_block | apply x_exit | apply x_ret | apply x_ops_nil | apply p_blk | apply p_exit_it | apply p_exit_hit | apply p_ret_it | apply p_ret_blk | apply p_panic_it | apply p_panic_blk | apply p_end | (apply p_exit_miss; (· rfl)) | (apply x_region; simp only [List.toList_toArray]) | (apply x_step0; (· rfl); (· simp only [go_sem, *]; try rfl); (· rfl); simp only [putA]) | (apply x_callA []; (· simp only [go_sem, *]; try rfl); (· rfl); (· simp only [go_sem, *]; try rfl); (· rfl); (iterate 2 (· simp only [go_sem, *]; try rfl)); (first | apply hg); simp only [afterCall, putA]) | (apply x_panic; (· simp only [go_sem, *]; try rfl); (· rfl); (· simp only [go_sem, *]; try rfl)) | (apply x_step; (iterate 2 (· simp only [go_sem, *]; try rfl)); (· rfl); simp only [putA]) | (apply x_unwanted; (· simp only [go_sem, *]; try rfl); (· rfl); simp only [putA]) | (apply x_condT; (· simp only [go_sem, *]; try rfl)) | (apply x_condF; (· simp only [go_sem, *]; try rfl)) | (apply x_guardS; (· rfl); (fail_if_success (focus (show _ = some true; (· simp only [go_sem, *]; try rfl)))); (· simp only [go_sem, *]; try rfl); all_goals (intro hb; try simp only [Bool.not_eq_true', Bool.not_eq_false'] at hb)) | (apply x_condS; (· simp only [go_sem, *]; try rfl); all_goals (intro hb; try simp only [Bool.not_eq_true', Bool.not_eq_false'] at hb)) | fail
      (apply f_ret; iterate 7 (· simp only [go_sem, *, Tryz.results115]; try rfl))
      exact h
    · have h : R (.ret (.bool false)) S := h
      have hg : ∀ S' (R : AOut → List Blk → Prop), R (.ret (.tup [.bool true, .bool true])) S' → ACall Tryz.prog w0 116 [.sval false (List.map By p)] S' R := hg
      refine enter Tryz.func115 rfl (by decide +kernel) (by rw [Tryz.ntmps115]; simp) (by rw [Tryz.ntmps115]; decide) (fun hO => ?_); rw [Tryz.ntmps115]
      repeat' first | apply x_seq | apply x_skip | apply x_block | apply x_exit | apply x_ret | apply x_ops_nil | apply p_blk | apply p_exit_it | apply p_exit_hit | apply p_ret_it | apply p_ret_blk | apply p_panic_it | apply p_panic_blk | apply p_end | (apply p_exit_miss; (· rfl)) | (apply x_region; simp only [List.toList_toArray]) | (apply x_step0; (· rfl); (· simp only [go_sem, *]; try rfl); (· rfl); simp only [putA]) | (apply x_callA []; (· simp only [go_sem, *]; try rfl); (· rfl); (· simp only [go_sem, *]; try rfl); (· rfl); (iterate 2 (· simp only [go_sem, *]; try rfl)); (first | apply hg); simp only [afterCall, putA]) | (apply x_panic; (· simp only [go_sem, *]; try rfl); (· rfl); (· simp only [go_sem, *]; try rfl)) | (apply x_step; (iterate 2 (· simp only [go_sem, *]; try rfl)); (· rfl); simp only [putA]) | (apply x_unwanted; (· simp only [go_sem, *]; try rfl); (· rfl); simp only [putA]) | (apply x_condT; (· simp only [go_sem, *]; try rfl)) | (apply x_condF; (· simp only [go_sem, *]; try rfl)) | (apply x_guardS; (· rfl); (fail_if_success (focus (show _ = some true; (· simp only [go_sem, *]; try rfl)))); (· simp only [go_sem, *]; try rfl); all_goals (intro hb; try simp only [Bool.not_eq_true', Bool.not_eq_false'] at hb)) | (apply x_condS; (· simp only [go_sem, *]; try rfl); all_goals (intro hb; try simp only [Bool.not_eq_true', Bool.not_eq_false'] at hb)) | fail
      (apply f_ret; iterate 7 (· simp only [go_sem, *, Tryz.results115]; try rfl))
      exact h
end Go.Proofs.YtfnnjkbhmoomjaaGreatDoor
namespace Go.Proofs.YtfnnjkbhmoomjaaGreatDoor
open Go Go.Fen
set_option linter.unusedSimpArgs false
set_option linter.unusedVariables false
attribute [local irreducible] RunX WP ACall AnyP OpA ProtL
set_option maxRecDepth 8000
end Go.Proofs.YtfnnjkbhmoomjaaGreatDoor
namespace Go.Proofs.YtfnnjkbhmoomjaaGreatDoor
open Go Go.Fen
set_option linter.unusedSimpArgs false
set_option linter.unusedVariables false
attribute [local irreducible] RunX WP ACall AnyP OpA ProtL
set_option maxRecDepth 8000
end Go.Proofs.YtfnnjkbhmoomjaaGreatDoor
namespace Go.Proofs.YtfnnjkbhmoomjaaGreatDoor
open Go Go.Fen
set_option linter.unusedSimpArgs false
set_option linter.unusedVariables false
attribute [local irreducible] RunX WP ACall AnyP OpA ProtL
set_option maxRecDepth 8000
end Go.Proofs.YtfnnjkbhmoomjaaGreatDoor
namespace Go.Proofs.YtfnnjkbhmoomjaaGreatDoor
open Go Go.Fen
set_option linter.unusedSimpArgs false
set_option linter.unusedVariables false
attribute [local irreducible] RunX WP ACall AnyP OpA ProtL
set_option maxRecDepth 8000
end Go.Proofs.YtfnnjkbhmoomjaaGreatDoor
namespace Go.Proofs.YtfnnjkbhmoomjaaGreatDoor
open Go Go.Fen
set_option linter.unusedSimpArgs false
set_option linter.unusedVariables false
attribute [local irreducible] RunX WP ACall AnyP OpA ProtL
set_option maxRecDepth 8000
def encV : List Nat → List Nat
  | [] => []
  | [a] => [a / 4, a % 4 * 16]
  | [a, b] => [a / 4, a % 4 * 16 + b / 16, b % 16 * 4]
  | a :: b :: c :: r => a / 4 :: (a % 4 * 16 + b / 16) :: (b % 16 * 4 + c / 64) :: c % 64 :: encV r
structure EncS where
  out : List Nat
  wait : Nat
  rest : Nat
def encStep (q : EncS) (c : Nat) : EncS :=
  if q.wait = 0 then ⟨q.out ++ [(q.rest * 256 + c) / 4], 2, (q.rest * 256 + c) % 4⟩
  else if q.wait = 2 then ⟨q.out ++ [(q.rest * 256 + c) / 16], 4, (q.rest * 256 + c) % 16⟩
  else ⟨q.out ++ [(q.rest * 256 + c) / 64, (q.rest * 256 + c) % 64], 0, 0⟩
def encEnd (q : EncS) : List Nat := if q.wait = 0 then q.out else if q.wait = 2 then q.out ++ [q.rest * 16] else q.out ++ [q.rest * 4]
def encP (s : List Nat) : EncS := s.foldl encStep ⟨[], 0, 0⟩
theorem enc_fold : ∀ (s : List Nat) (o : List Nat), (∀ x ∈ s, x < 256) → encEnd (s.foldl encStep ⟨o, 0, 0⟩) = o ++ encV s
  | [], o, _ => by simp [encEnd, encV]
  | [a], o, h => by
    have ha := h a (by simp)
    simp [encStep, encEnd, encV]
  | [a, b], o, h => by
    have ha := h a (by simp)
    have hb := h b (by simp)
    simp [encStep, encEnd, encV]
    omega
  | a :: b :: c :: r, o, h => by
    have ha := h a (by simp)
    have hb := h b (by simp)
    have hc := h c (by simp)
    have ih := enc_fold r (o ++ [a / 4, a % 4 * 16 + b / 16, b % 16 * 4 + c / 64, c % 64]) (fun x hx => h x (by simp [hx]))
    have e : (a :: b :: c :: r).foldl encStep ⟨o, 0, 0⟩ = r.foldl encStep ⟨o ++ [a / 4, a % 4 * 16 + b / 16, b % 16 * 4 + c / 64, c % 64], 0, 0⟩ := by
      simp only [List.foldl_cons]
      congr 1
      simp [encStep]
      omega
    rw [e, ih]
    simp [encV]
theorem enc_prog (s : List Nat) (h : ∀ x ∈ s, x < 256) : encEnd (encP s) = encV s := by
  have := enc_fold s [] h
  simpa [encP] using this
def bitR (s : List Nat) (k : Nat) : Nat := match s[k / 8]? with | some b => b / 2 ^ (7 - k % 8) % 2 | none => 0
def sextR (s : List Nat) (p : Nat) : Nat := 2 * (2 * (2 * (2 * (2 * (2 * 0 + bitR s p) + bitR s (p + 1)) + bitR s (p + 2)) + bitR s (p + 3)) + bitR s (p + 4)) + bitR s (p + 5)
theorem bit_shift (a b c : Nat) (r : List Nat) (k : Nat) : bitR (a :: b :: c :: r) (k + 24) = bitR r k := by
  unfold bitR
  rw [show (k + 24) / 8 = k / 8 + 3 by omega, show (k + 24) % 8 = k % 8 by omega]
  simp
end Go.Proofs.YtfnnjkbhmoomjaaGreatDoor
namespace Go.Proofs.YtfnnjkbhmoomjaaGreatDoor
open Go Go.Fen
set_option linter.unusedSimpArgs false
set_option linter.unusedVariables false
attribute [local irreducible] RunX WP ACall AnyP OpA ProtL
set_option maxRecDepth 8000
def decStep (q : EncS) (v : Nat) : EncS :=
  if q.wait = 0 then ⟨q.out, 6, q.rest * 64 + v⟩
  else if q.wait = 6 then ⟨q.out ++ [(q.rest * 64 + v) / 16], 4, (q.rest * 64 + v) % 16⟩
  else if q.wait = 4 then ⟨q.out ++ [(q.rest * 64 + v) / 4], 2, (q.rest * 64 + v) % 4⟩
  else ⟨q.out ++ [q.rest * 64 + v], 0, 0⟩
def decV : List Nat → EncS
  | [] => ⟨[], 0, 0⟩
  | [a] => ⟨[], 6, a⟩
  | [a, b] => ⟨[a * 4 + b / 16], 4, b % 16⟩
  | [a, b, c] => ⟨[a * 4 + b / 16, b % 16 * 16 + c / 4], 2, c % 4⟩
  | a :: b :: c :: d :: r => ⟨(a * 4 + b / 16) :: (b % 16 * 16 + c / 4) :: (c % 4 * 64 + d) :: (decV r).out, (decV r).wait, (decV r).rest⟩
theorem dec_fold : ∀ (s : List Nat) (o : List Nat), (∀ x ∈ s, x < 64) → s.foldl decStep ⟨o, 0, 0⟩ = ⟨o ++ (decV s).out, (decV s).wait, (decV s).rest⟩
  | [], o, _ => by simp [decV]
  | [a], o, h => by simp [decStep, decV]
  | [a, b], o, h => by
    have hb := h b (by simp)
    simp [decStep, decV]
    omega
  | [a, b, c], o, h => by
    have hb := h b (by simp)
    have hc := h c (by simp)
    simp [decStep, decV]
    omega
  | a :: b :: c :: d :: r, o, h => by
    have hb := h b (by simp)
    have hc := h c (by simp)
    have hd := h d (by simp)
    have ih := dec_fold r (o ++ [a * 4 + b / 16, b % 16 * 16 + c / 4, c % 4 * 64 + d]) (fun x hx => h x (by simp [hx]))
    have e : (a :: b :: c :: d :: r).foldl decStep ⟨o, 0, 0⟩ = r.foldl decStep ⟨o ++ [a * 4 + b / 16, b % 16 * 16 + c / 4, c % 4 * 64 + d], 0, 0⟩ := by
      simp only [List.foldl_cons]
      congr 1
      simp [decStep]
      omega
    rw [e, ih]
    simp [decV]
theorem enc_dec : ∀ (s : List Nat), (∀ x ∈ s, x < 64) → (decV s).wait ≠ 6 → (decV s).rest = 0 → encV (decV s).out = s
  | [], _, _, _ => by simp [decV, encV]
  | [a], _, h1, _ => by simp [decV] at h1
  | [a, b], h, _, h2 => by
    have hb := h b (by simp)
    simp [decV] at h2
    simp [decV, encV]
    omega
  | [a, b, c], h, _, h2 => by
    have hb := h b (by simp)
    have hc := h c (by simp)
    simp [decV] at h2
    simp [decV, encV]
    omega
  | a :: b :: c :: d :: r, h, h1, h2 => by
    have hb := h b (by simp)
    have hc := h c (by simp)
    have hd := h d (by simp)
    have ih := enc_dec r (fun x hx => h x (by simp [hx])) (by simpa [decV] using h1) (by simpa [decV] using h2)
    simp only [decV, encV, ih]
    simp
    omega
theorem dec_enc : ∀ (t : List Nat), (∀ x ∈ t, x < 256) → (decV (encV t)).out = t ∧ (decV (encV t)).wait ≠ 6 ∧ (decV (encV t)).rest = 0
  | [], _ => by simp [decV, encV]
  | [a], h => by
    have ha := h a (by simp)
    simp [decV, encV]
    omega
  | [a, b], h => by
    have ha := h a (by simp)
    have hb := h b (by simp)
    simp [decV, encV]
    omega
  | a :: b :: c :: r, h => by
    have ha := h a (by simp)
    have hb := h b (by simp)
    have hc := h c (by simp)
    obtain ⟨h1, h2, h3⟩ := dec_enc r (fun x hx => h x (by simp [hx]))
    simp only [decV, encV, h1, h3]
    refine ⟨?_, h2, trivial⟩
    simp
    omega
theorem enc_lt : ∀ (t : List Nat), (∀ x ∈ t, x < 256) → ∀ v ∈ encV t, v < 64
  | [], _ => by simp [encV]
  | [a], h => by
    have ha := h a (by simp)
    simp [encV]
    omega
  | [a, b], h => by
    have ha := h a (by simp)
    have hb := h b (by simp)
    simp [encV]
    omega
  | a :: b :: c :: r, h => by
    have ha := h a (by simp)
    have hb := h b (by simp)
    have hc := h c (by simp)
    have ih := enc_lt r (fun x hx => h x (by simp [hx]))
    intro v hv
    simp only [encV, List.mem_cons] at hv
    rcases hv with rfl | rfl | rfl | rfl | hv
    · omega
    · omega
    · omega
    · omega
    · exact ih v hv
theorem dec_lt : ∀ (s : List Nat), (∀ x ∈ s, x < 64) → ∀ v ∈ (decV s).out, v < 256
  | [], _ => by simp [decV]
  | [a], _ => by simp [decV]
  | [a, b], h => by
    have ha := h a (by simp)
    have hb := h b (by simp)
    simp [decV]
    omega
  | [a, b, c], h => by
    have ha := h a (by simp)
    have hb := h b (by simp)
    have hc := h c (by simp)
    simp [decV]
    omega
  | a :: b :: c :: d :: r, h => by
    have ha := h a (by simp)
    have hb := h b (by simp)
    have hc := h c (by simp)
    have hd := h d (by simp)
    have ih := dec_lt r (fun x hx => h x (by simp [hx]))
    intro v hv
    simp only [decV, List.mem_cons] at hv
    rcases hv with rfl | rfl | rfl | hv
    · omega
    · omega
    · omega
    · exact ih v hv
theorem enc_len : ∀ (t : List Nat), (encV t).length = (8 * t.length + 5) / 6
  | [] => by simp [encV]
  | [a] => by simp [encV]
  | [a, b] => by simp [encV]
  | a :: b :: c :: r => by
    have ih := enc_len r
    simp only [encV, List.length_cons, ih]
    omega
end Go.Proofs.YtfnnjkbhmoomjaaGreatDoor
namespace Go.Proofs.YtfnnjkbhmoomjaaGreatDoor
open Go Go.Fen
set_option linter.unusedSimpArgs false
set_option linter.unusedVariables false
attribute [local irreducible] RunX WP ACall AnyP OpA ProtL
set_option maxRecDepth 8000
def signsL : List UInt8 := [65, 66, 67, 68, 69, 70, 71, 72, 73, 74, 75, 76, 77, 78, 79, 80, 81, 82, 83, 84, 85, 86, 87, 88, 89, 90, 97, 98, 99, 100, 101, 102, 103, 104, 105, 106, 107, 108, 109, 110, 111, 112, 113, 114, 115, 116, 117, 118, 119, 120, 121, 122, 48, 49, 50, 51, 52, 53, 54, 55, 56, 57, 43, 47]
def signC (v : Nat) : UInt8 := signsL.getD v 0
def valC (c : UInt8) : Option Nat := signsL.findIdx? (fun x => x == c)
theorem val_sign : ∀ v, v < 64 → valC (signC v) = some v := by decide +kernel
theorem sign_fill : ∀ v, v < 64 → signC v ≠ 61 := by decide +kernel
theorem val_fill : valC 61 = none := by decide +kernel
theorem val_some {c : UInt8} {v : Nat} (h : valC c = some v) : v < 64 ∧ signC v = c := by
  unfold valC at h
  rw [List.findIdx?_eq_some_iff_getElem] at h
  obtain ⟨h1, h2, _⟩ := h
  refine ⟨h1, ?_⟩
  unfold signC
  rw [List.getD_eq_getElem?_getD, List.getElem?_eq_getElem h1]
  simpa using h2
def valsC : List UInt8 → Option (List Nat)
  | [] => some []
  | c :: r => match valC c with
    | some v => (valsC r).map (v :: ·)
    | none => none
def takeC : List UInt8 → List Nat
  | [] => []
  | c :: r => match valC c with
    | some v => v :: takeC r
    | none => []
def trimC (s : List UInt8) : List UInt8 := (s.reverse.dropWhile (fun b => b == 61)).reverse
def encB (s : List UInt8) : List UInt8 := (encV (s.map UInt8.toNat)).map signC
def padN (n : Nat) : Nat := (4 - n % 4) % 4
def encF (s : List UInt8) : List UInt8 := encB s ++ List.replicate (padN (encB s).length) 61
def decP (s : List UInt8) : Option (List UInt8) :=
  if (trimC s).length ≠ s.length ∧ (s.length % 4 ≠ 0 ∨ 2 < s.length - (trimC s).length) then none else
    match valsC (trimC s) with
    | none => none
    | some V => if (decV V).wait = 6 ∨ (decV V).rest ≠ 0 then none else some ((decV V).out.map UInt8.ofNat)
def decT (s : List UInt8) : List UInt8 := (decV (takeC s)).out.map UInt8.ofNat
def decR (s : List UInt8) : Option (List UInt8) := if s ≠ encB (decT s) ∧ s ≠ encF (decT s) then none else some (decT s)
theorem vals_map : ∀ (V : List Nat), (∀ v ∈ V, v < 64) → valsC (V.map signC) = some V
  | [], _ => rfl
  | v :: V, h => by
    rw [List.map_cons, valsC, val_sign v (h v (by simp)), vals_map V (fun x hx => h x (by simp [hx]))]
    rfl
theorem vals_some : ∀ {s : List UInt8} {V : List Nat}, valsC s = some V → s = V.map signC ∧ ∀ v ∈ V, v < 64
  | [], V, h => by cases h; simp
  | c :: r, V, h => by
    rw [valsC] at h
    cases hc : valC c with
    | none => rw [hc] at h; cases h
    | some v =>
      rw [hc] at h
      simp only at h
      cases hr : valsC r with
      | none => rw [hr] at h; cases h
      | some W =>
        rw [hr] at h
        cases h
        obtain ⟨h1, h2⟩ := vals_some hr
        obtain ⟨h3, h4⟩ := val_some hc
        refine ⟨by rw [List.map_cons, h4, ← h1], ?_⟩
        intro x hx
        rcases List.mem_cons.1 hx with rfl | hx
        · exact h3
        · exact h2 x hx
theorem take_map : ∀ (V : List Nat) (k : Nat), (∀ v ∈ V, v < 64) → takeC (V.map signC ++ List.replicate k 61) = V
  | [], k, _ => by
    cases k with
    | zero => rfl
    | succ k => simp [List.replicate_succ, takeC, val_fill]
  | v :: V, k, h => by
    rw [List.map_cons, List.cons_append, takeC, val_sign v (h v (by simp))]
    simp only
    rw [take_map V k (fun x hx => h x (by simp [hx]))]
theorem drop_rep (l : List UInt8) (k : Nat) : (List.replicate k (61 : UInt8) ++ l).dropWhile (fun b => b == 61) = l.dropWhile (fun b => b == 61) := by
  induction k with
  | zero => rfl
  | succ k ih => rw [List.replicate_succ, List.cons_append, List.dropWhile_cons_of_pos (by rfl), ih]
theorem trim_map (V : List Nat) (k : Nat) (h : ∀ v ∈ V, v < 64) : trimC (V.map signC ++ List.replicate k 61) = V.map signC := by
  unfold trimC
  rw [List.reverse_append, List.reverse_replicate, drop_rep]
  cases hV : (V.map signC).reverse with
  | nil => have := congrArg List.reverse hV; simp at this; simp [this]
  | cons c r =>
    have hc : c ∈ V.map signC := by rw [← List.mem_reverse, hV]; simp
    obtain ⟨v, hv, rfl⟩ := List.mem_map.1 hc
    have hn := sign_fill v (h v hv)
    rw [List.dropWhile_cons_of_neg (by simpa using hn), ← hV, List.reverse_reverse]
theorem drop_split : ∀ (l : List UInt8), ∃ k, l = List.replicate k 61 ++ l.dropWhile (fun b => b == 61)
  | [] => ⟨0, rfl⟩
  | c :: r => by
    by_cases hc : c = 61
    · subst hc
      obtain ⟨k, hk⟩ := drop_split r
      refine ⟨k + 1, ?_⟩
      rw [List.dropWhile_cons_of_pos (by rfl), List.replicate_succ, List.cons_append, ← hk]
    · refine ⟨0, ?_⟩
      rw [List.dropWhile_cons_of_neg (by simpa using hc)]
      rfl
theorem trim_split (s : List UInt8) : ∃ k, s = trimC s ++ List.replicate k 61 := by
  obtain ⟨k, hk⟩ := drop_split s.reverse
  refine ⟨k, ?_⟩
  have := congrArg List.reverse hk
  rw [List.reverse_reverse, List.reverse_append, List.reverse_replicate] at this
  exact this
theorem dec_wait : ∀ V : List Nat, (decV V).wait = 6 ↔ V.length % 4 = 1
  | [] => by simp [decV]
  | [a] => by simp [decV]
  | [a, b] => by simp [decV]
  | [a, b, c] => by simp [decV]
  | a :: b :: c :: d :: r => by
    have ih := dec_wait r
    simp only [decV, List.length_cons, ih]
    omega
theorem toNat_ofNat : ∀ (l : List Nat), (∀ v ∈ l, v < 256) → (l.map UInt8.ofNat).map UInt8.toNat = l
  | [], _ => rfl
  | a :: l, h => by
    have ha := h a (by simp)
    rw [List.map_cons, List.map_cons, toNat_ofNat l (fun x hx => h x (by simp [hx]))]
    congr 1
    simp [UInt8.toNat_ofNat']
    omega
theorem toNat_lt (t : List UInt8) : ∀ v ∈ t.map UInt8.toNat, v < 256 := by
  intro v hv
  obtain ⟨c, _, rfl⟩ := List.mem_map.1 hv
  exact c.toNat_lt
theorem dec_same (s : List UInt8) : decP s = decR s := by
  by_cases hs : ∃ (V : List Nat) (k : Nat), (∀ v ∈ V, v < 64) ∧ s = V.map signC ++ List.replicate k 61
  · obtain ⟨V, k, hV, rfl⟩ := hs
    unfold decP decR decT
    rw [take_map V k hV, trim_map V k hV, vals_map V hV]
    have ho := dec_lt V hV
    have hw := dec_wait V
    by_cases hq : (decV V).wait = 6 ∨ (decV V).rest ≠ 0
    · simp only
      rw [if_pos hq]
      have hno : ¬ ((V.map signC ++ List.replicate k 61 = encB ((decV V).out.map UInt8.ofNat)) ∨ (V.map signC ++ List.replicate k 61 = encF ((decV V).out.map UInt8.ofNat))) := by
        intro he
        have he' : ∃ j, V.map signC ++ List.replicate k 61 = encB ((decV V).out.map UInt8.ofNat) ++ List.replicate j 61 := by
          rcases he with he | he
          · exact ⟨0, by simpa using he⟩
          · exact ⟨_, he⟩
        obtain ⟨j, he⟩ := he'
        have ht := congrArg takeC he
        unfold encB at ht
        rw [take_map V k hV, toNat_ofNat _ ho, take_map _ j (enc_lt _ ho)] at ht
        obtain ⟨_, h2, h3⟩ := dec_enc _ ho
        rw [← ht] at h2 h3
        rcases hq with hq | hq
        · exact h2 hq
        · exact hq h3
      split
      · rw [if_pos ⟨fun e => hno (.inl e), fun e => hno (.inr e)⟩]
      · rw [if_pos ⟨fun e => hno (.inl e), fun e => hno (.inr e)⟩]
    · have h1 : (decV V).wait ≠ 6 := fun e => hq (.inl e)
      have h2 : (decV V).rest = 0 := Decidable.byContradiction fun e => hq (.inr e)
      have hb : encB ((decV V).out.map UInt8.ofNat) = V.map signC := by
        unfold encB
        rw [toNat_ofNat _ ho, enc_dec V hV h1 h2]
      simp only
      rw [if_neg hq]
      unfold encF
      rw [hb]
      simp only [List.length_append, List.length_map, List.length_replicate]
      have hl : V.length % 4 ≠ 1 := fun e => h1 (hw.2 e)
      have hk0 : (V.map signC ++ List.replicate k 61 = V.map signC) ↔ k = 0 := by
        constructor
        · intro e
          have := congrArg List.length e
          simp at this
          exact this
        · rintro rfl; simp
      have hkp : (V.map signC ++ List.replicate k 61 = V.map signC ++ List.replicate (padN V.length) 61) ↔ k = padN V.length := by
        constructor
        · intro e
          have := congrArg List.length e
          simp at this
          exact this
        · rintro rfl; rfl
      by_cases hg : k = 0 ∨ k = padN V.length
      · rw [if_neg (by unfold padN at hg; omega), if_neg (by rw [ne_eq, ne_eq, hk0, hkp]; omega)]
      · rw [if_pos (by unfold padN at hg; omega), if_pos (by rw [ne_eq, ne_eq, hk0, hkp]; omega)]
  · have e1 : decP s = none := by
      unfold decP
      split
      · rfl
      · cases hv : valsC (trimC s) with
        | none => rfl
        | some V =>
          exfalso
          obtain ⟨k, hk⟩ := trim_split s
          obtain ⟨h1, h2⟩ := vals_some hv
          exact hs ⟨V, k, h2, by rw [← h1]; exact hk⟩
    have e2 : decR s = none := by
      unfold decR
      rw [if_pos]
      constructor
      · intro e
        exact hs ⟨_, 0, enc_lt _ (toNat_lt (decT s)), by rw [List.replicate_zero, List.append_nil]; exact e⟩
      · intro e
        exact hs ⟨_, _, enc_lt _ (toNat_lt (decT s)), e⟩
    rw [e1, e2]
end Go.Proofs.YtfnnjkbhmoomjaaGreatDoor
namespace Go.Proofs.YtfnnjkbhmoomjaaGreatDoor
open Go Go.Fen
set_option linter.unusedSimpArgs false
set_option linter.unusedVariables false
attribute [local irreducible] RunX WP ACall AnyP OpA ProtL
set_option maxRecDepth 8000
theorem step_on {p : List Nat} {b : Nat} (h : kindU (p ++ [b]) = 1) (s : List Nat) : codesF p (b :: s) = codesF (p ++ [b]) s := by
  rw [codesF]
  unfold stepU
  rw [if_neg (by rw [h]; decide), if_pos h]
  rfl
theorem step_all {p : List Nat} {b : Nat} (h : kindU (p ++ [b]) = 2) (s : List Nat) : codesF p (b :: s) = codeU (p ++ [b]) :: codesF [] s := by
  rw [codesF]
  unfold stepU
  rw [if_pos h]
  rfl
theorem kind_first {a n : Nat} (h : lenU a = n) (hn : 2 ≤ n) : kindU [a] = 1 := by
  simp only [kindU, h, List.length_nil, contU]
  rw [if_neg (by omega), if_pos trivial, if_pos (by omega)]
theorem kind_more {a n : Nat} {r : List Nat} (h : lenU a = n) (hc : contU (loU a) (hiU a) r = true) (hr : r.length + 1 < n) : kindU (a :: r) = 1 := by
  simp only [kindU, h, hc]
  rw [if_neg (by omega), if_pos trivial, if_pos hr]
theorem kind_whole {a n : Nat} {r : List Nat} (h : lenU a = n) (hc : contU (loU a) (hiU a) r = true) (hr : r.length + 1 = n) : kindU (a :: r) = 2 := by
  simp only [kindU, h, hc]
  rw [if_neg (by omega), if_pos trivial, if_neg (by omega)]
end Go.Proofs.YtfnnjkbhmoomjaaGreatDoor
namespace Go.Proofs.YtfnnjkbhmoomjaaGreatDoor
open Go Go.Fen
set_option linter.unusedSimpArgs false
set_option linter.unusedVariables false
attribute [local irreducible] RunX WP ACall AnyP OpA ProtL
set_option maxRecDepth 8000
def okT (c : Nat) : Bool := decide (32 ≤ c) && !(decide (127 ≤ c) && decide (c ≤ 159))
def nameT (s : List UInt8) : Bool := (codesB s).all okT && decide (textS (codesB s) = s)
def titleB (s : List UInt8) : Bool := decide (s.length ≤ 510) && nameT s
theorem textS_map (l : List Nat) : (textS l).map UInt8.toNat = textU l := by
  induction l with
  | nil => rfl
  | cons c l ih =>
    show (putS c ++ textS l).map UInt8.toNat = putU c ++ textU l
    rw [List.map_append, ih]
    congr 1
    unfold putS
    exact toNat_ofNat _ (putU_byte c)
theorem putN_clean (c : Nat) (hc : okT c = true) : ∀ x ∈ putU c, 32 ≤ x ∧ x ≠ 127 := by
  unfold okT at hc
  simp at hc
  intro x hx
  unfold putU at hx
  split at hx
  · unfold putN at hx
    repeat' split at hx
    all_goals (simp at hx; omega)
  · simp [putN] at hx
    omega
def cleanB (s : List UInt8) : Prop := ∀ b ∈ s, 32 ≤ b.toNat ∧ b.toNat ≠ 127
theorem nameT_clean {s : List UInt8} (h : nameT s = true) : cleanB s := by
  unfold nameT at h
  rw [Bool.and_eq_true, List.all_eq_true, decide_eq_true_eq] at h
  obtain ⟨h1, h2⟩ := h
  intro b hb
  rw [← h2] at hb
  have hm : b.toNat ∈ (textS (codesB s)).map UInt8.toNat := List.mem_map.2 ⟨b, hb, rfl⟩
  rw [textS_map] at hm
  obtain ⟨c, hc, hx⟩ := List.mem_flatMap.1 hm
  exact putN_clean c (h1 c hc) _ hx
def rgbT (n : Nat) : List UInt8 := [114, 103, 98, 58, hexC (n / 1048576), hexC (n / 65536 % 16), 47, hexC (n / 4096 % 16), hexC (n / 256 % 16), 47, hexC (n / 16 % 16), hexC (n % 16)]
def colP : List UInt8 → Option Nat
  | [p0, p1, p2, p3, a, b, q, c, d, r, e, f] => if p0 = 114 ∧ p1 = 103 ∧ p2 = 98 ∧ p3 = 58 ∧ q = 47 ∧ r = 47 then
      (match hexV a b, hexV c d, hexV e f with
      | some x, some y, some z => some (x * 65536 + y * 256 + z)
      | _, _, _ => none) else none
  | _ => none
theorem hex_hex : ∀ x, x < 16 → ∀ y, y < 16 → hexV (hexC x) (hexC y) = some (x * 16 + y) := by decide +kernel
theorem hex_clean : ∀ x, x < 16 → 32 ≤ (hexC x).toNat ∧ (hexC x).toNat ≠ 127 ∧ hexC x ≠ 59 := by decide +kernel
theorem col_rgb {n : Nat} (h : n ≤ 16777215) : colP (rgbT n) = some n := by
  unfold rgbT colP
  simp only
  rw [if_pos (by simp), hex_hex _ (by omega) _ (by omega), hex_hex _ (by omega) _ (by omega), hex_hex _ (by omega) _ (by omega)]
  simp only
  congr 1
  omega
theorem col_lt {s : List UInt8} {n : Nat} (h : colP s = some n) : n ≤ 16777215 := by
  unfold colP at h
  split at h
  · split at h
    · split at h
      · next x y z hx hy hz =>
        have := hexV_lt hx
        have := hexV_lt hy
        have := hexV_lt hz
        cases h
        omega
      · cases h
    · cases h
  · cases h
theorem rgb_clean {n : Nat} (h : n ≤ 16777215) : cleanB (rgbT n) := by
  intro b hb
  simp only [rgbT, List.mem_cons, List.not_mem_nil, or_false] at hb
  have g := fun x hx => hex_clean x hx
  rcases hb with rfl | rfl | rfl | rfl | rfl | rfl | rfl | rfl | rfl | rfl | rfl | rfl
  all_goals first
    | decide
    | exact ⟨(g _ (by omega)).1, (g _ (by omega)).2.1⟩
def dgO (b : UInt8) : Bool := decide (48 ≤ b.toNat) && decide (b.toNat ≤ 57)
def valO (w : List UInt8) : Nat := w.foldl (fun n b => n * 10 + (b.toNat - 48)) 0
def numO (w : List UInt8) : Option Nat := if w = [] ∨ 3 < w.length ∨ w.all dgO = false ∨ 255 < valO w then none else some (valO w)
theorem itoa_num : ∀ n : Nat, n < 256 → numO (Lib.itoa (n : Int)) = some n ∧ (Lib.itoa (n : Int)).length ≤ 3 ∧ (Lib.itoa (n : Int)).all (fun b => decide (b ≠ 59) && (decide (32 ≤ b.toNat) && decide (b.toNat ≠ 127))) = true := by decide +kernel
theorem num_le {w : List UInt8} {n : Nat} (h : numO w = some n) : n ≤ 255 := by
  unfold numO at h
  split at h
  · cases h
  · next hh => cases h; omega
def cutO (s : List UInt8) : Option (List UInt8 × List UInt8) := if s.dropWhile (fun b => b != 59) = [] then none else some (s.takeWhile (fun b => b != 59), (s.dropWhile (fun b => b != 59)).drop 1)
theorem cut_app : ∀ {w : List UInt8} (r : List UInt8), (∀ b ∈ w, b ≠ 59) → cutO (w ++ 59 :: r) = some (w, r) := by
  intro w r hw
  have h : (w ++ 59 :: r).takeWhile (fun b => b != 59) = w ∧ (w ++ 59 :: r).dropWhile (fun b => b != 59) = 59 :: r := by
    induction w with
    | nil => exact ⟨rfl, rfl⟩
    | cons c w ih =>
      have hc : (c != 59) = true := by simpa using hw c (by simp)
      obtain ⟨h1, h2⟩ := ih (fun b hb => hw b (List.mem_cons_of_mem _ hb))
      simp only [List.cons_append]
      rw [List.takeWhile_cons, List.dropWhile_cons, if_pos hc, if_pos hc, h1, h2]
      exact ⟨rfl, rfl⟩
  unfold cutO
  rw [h.1, h.2]
  rfl
structure Ac where
  kind : Int
  n : Int
  m : Int
  ck : Int
  cn : Int
  text : List UInt8
  deriving DecidableEq
def zeroA : Ac := ⟨0, 0, 0, 0, 0, []⟩
def printO (a : Ac) : Option (List UInt8) :=
  if a = ⟨44, 0, 0, 0, 0, a.text⟩ ∧ titleB a.text = true then some (50 :: 59 :: a.text)
  else if a = ⟨45, a.n, 0, 2, a.cn, []⟩ ∧ (0 ≤ a.n ∧ a.n ≤ 255) ∧ (0 ≤ a.cn ∧ a.cn ≤ 16777215) then some (52 :: 59 :: (Lib.itoa a.n ++ 59 :: rgbT a.cn.toNat))
  else if a = ⟨46, 0, 0, 0, 0, a.text⟩ ∧ a.text.length ≤ 378 then some (53 :: 50 :: 59 :: 99 :: 59 :: encF a.text)
  else none
def parseO (s : List UInt8) : Option Ac :=
  if 512 < s.length then none else
    match cutO s with
    | none => none
    | some (k, r) =>
      if k = [48] ∨ k = [50] then (if titleB r then some ⟨44, 0, 0, 0, 0, r⟩ else none)
      else if k = [52] then
        (match cutO r with
        | none => none
        | some (h, t) => match numO h, colP t with
          | some n, some c => some ⟨45, n, 0, 2, c, []⟩
          | _, _ => none)
      else if k = [53, 50] then
        (match cutO r with
        | none => none
        | some (w, t) => if w = [99] then
            (match decP t with
            | some c => if c.length ≤ 378 then some ⟨46, 0, 0, 0, 0, c⟩ else none
            | none => none) else none)
      else none
theorem print_kinds {a : Ac} {s : List UInt8} (h : printO a = some s) :
    (∃ t, a = ⟨44, 0, 0, 0, 0, t⟩ ∧ titleB t = true ∧ s = 50 :: 59 :: t) ∨
    (∃ n c : Nat, a = ⟨45, n, 0, 2, c, []⟩ ∧ n < 256 ∧ c ≤ 16777215 ∧ s = 52 :: 59 :: (Lib.itoa n ++ 59 :: rgbT c)) ∨
    (∃ t, a = ⟨46, 0, 0, 0, 0, t⟩ ∧ t.length ≤ 378 ∧ s = 53 :: 50 :: 59 :: 99 :: 59 :: encF t) := by
  unfold printO at h
  split at h
  · next hh => cases h; exact .inl ⟨_, hh.1, hh.2, rfl⟩
  · split at h
    · next hh =>
      obtain ⟨h1, ⟨h2, h3⟩, h4, h5⟩ := hh
      cases h
      obtain ⟨n, hn⟩ : ∃ n : Nat, a.n = n := ⟨a.n.toNat, by omega⟩
      obtain ⟨c, hc⟩ : ∃ c : Nat, a.cn = c := ⟨a.cn.toNat, by omega⟩
      rw [hn, hc] at h1
      exact .inr (.inl ⟨n, c, h1, by omega, by omega, by rw [hn, hc]; rfl⟩)
    · split at h
      · next hh => cases h; exact .inr (.inr ⟨_, hh.1, hh.2, rfl⟩)
      · cases h
theorem encF_len (t : List UInt8) : (encF t).length = (t.length + 2) / 3 * 4 := by
  unfold encF encB padN
  simp only [List.length_append, List.length_map, List.length_replicate, enc_len]
  omega
theorem sign_clean : ∀ v, v < 64 → 32 ≤ (signC v).toNat ∧ (signC v).toNat ≠ 127 := by decide +kernel
theorem encF_clean (t : List UInt8) : cleanB (encF t) := by
  intro b hb
  unfold encF encB at hb
  rcases List.mem_append.1 hb with hb | hb
  · obtain ⟨v, hv, rfl⟩ := List.mem_map.1 hb
    exact sign_clean v (enc_lt _ (toNat_lt t) v hv)
  · rw [List.eq_of_mem_replicate hb]; decide
theorem dec_encF (t : List UInt8) : decP (encF t) = some t := by
  rw [dec_same]
  have hV := enc_lt _ (toNat_lt t)
  have hd : decT (encF t) = t := by
    unfold decT encF encB
    rw [take_map _ _ hV, (dec_enc _ (toNat_lt t)).1, List.map_map]
    conv => rhs; rw [← List.map_id t]
    apply List.map_congr_left
    intro c _
    simp
  unfold decR
  rw [hd, if_neg (by simp)]
theorem parse_print {a : Ac} {s : List UInt8} (h : printO a = some s) : parseO s = some a ∧ 0 < s.length ∧ s.length ≤ 512 ∧ cleanB s := by
  rcases print_kinds h with ⟨t, rfl, ht, rfl⟩ | ⟨n, c, rfl, hn, hc, rfl⟩ | ⟨t, rfl, ht, rfl⟩
  · have htl : t.length ≤ 510 ∧ nameT t = true := by unfold titleB at ht; simpa using ht
    refine ⟨?_, by simp, by simp; omega, ?_⟩
    · unfold parseO
      have hcut : cutO (50 :: 59 :: t) = some ([50], t) := cut_app (w := [50]) t (by simp)
      rw [if_neg (by simp; omega), hcut]
      simp [ht]
    · intro b hb
      simp only [List.mem_cons] at hb
      rcases hb with rfl | rfl | hb
      · decide
      · decide
      · exact nameT_clean htl.2 b hb
  · obtain ⟨h1, h2, h3⟩ := itoa_num n hn
    rw [List.all_eq_true] at h3
    have hw : ∀ b ∈ Lib.itoa (n : Int), b ≠ 59 := fun b hb => by have := h3 b hb; simp at this; exact this.1
    have hl : (rgbT c).length = 12 := rfl
    refine ⟨?_, by simp, by simp; omega, ?_⟩
    · unfold parseO
      have hcut : cutO (52 :: 59 :: (Lib.itoa (n : Int) ++ 59 :: rgbT c)) = some ([52], Lib.itoa (n : Int) ++ 59 :: rgbT c) := cut_app (w := [52]) _ (by simp)
      rw [if_neg (by simp; omega), hcut]
      simp only
      rw [if_neg (by decide), if_pos trivial, cut_app _ hw]
      simp only [h1, col_rgb hc]
    · intro b hb
      simp only [List.mem_cons, List.mem_append] at hb
      rcases hb with rfl | rfl | hb | rfl | hb
      · decide
      · decide
      · have := h3 b hb; simp at this; exact ⟨this.2.1, this.2.2⟩
      · decide
      · exact rgb_clean hc b hb
  · have hl := encF_len t
    refine ⟨?_, by simp, by simp; omega, ?_⟩
    · unfold parseO
      have hcut : cutO (53 :: 50 :: 59 :: 99 :: 59 :: encF t) = some ([53, 50], 99 :: 59 :: encF t) := cut_app (w := [53, 50]) _ (by simp)
      have hcut2 : cutO (99 :: 59 :: encF t) = some ([99], encF t) := cut_app (w := [99]) _ (by simp)
      rw [if_neg (by simp; omega), hcut]
      simp only
      rw [if_neg (by decide), if_neg (by decide), if_pos trivial, hcut2]
      simp only [if_true, dec_encF, ht]
    · intro b hb
      simp only [List.mem_cons] at hb
      rcases hb with rfl | rfl | rfl | rfl | rfl | hb
      · decide
      · decide
      · decide
      · decide
      · decide
      · exact encF_clean t b hb
theorem parse_valid {s : List UInt8} {a : Ac} (h : parseO s = some a) : (∃ u, printO a = some u) ∧ s.length ≤ 512 := by
  unfold parseO at h
  split at h
  · cases h
  next hl =>
  refine ⟨?_, by omega⟩
  split at h
  · cases h
  · split at h
    · split at h
      · next ht => cases h; exact ⟨_, by unfold printO; rw [if_pos ⟨rfl, ht⟩]⟩
      · cases h
    · split at h
      · split at h
        · cases h
        · split at h
          · next n c hn hc =>
            cases h
            have h1 := num_le hn
            have h2 := col_lt hc
            exact ⟨_, by unfold printO; rw [if_neg (by simp), if_pos ⟨rfl, ⟨by simp, by simp; omega⟩, by simp, by simp; omega⟩]⟩
          · cases h
      · split at h
        · split at h
          · cases h
          · split at h
            · split at h
              · split at h
                · next hc => cases h; exact ⟨_, by unfold printO; rw [if_neg (by simp), if_neg (by simp), if_pos ⟨rfl, hc⟩]⟩
                · cases h
              · cases h
            · cases h
        · cases h
end Go.Proofs.YtfnnjkbhmoomjaaGreatDoor
namespace Go.Proofs.YtfnnjkbhmoomjaaGreatDoor
open Go Go.Fen
set_option linter.unusedSimpArgs false
set_option linter.unusedVariables false
attribute [local irreducible] RunX WP ACall AnyP OpA ProtL
set_option maxRecDepth 8000
def goodT (c : Int) : Bool := decide (0 ≤ c) && (okU c.toNat && okT c.toNat)
def fixT (c : Int) : Nat := if goodT c then c.toNat else 32 + ((c % 18446744073709551616) % 95).toNat
end Go.Proofs.YtfnnjkbhmoomjaaGreatDoor
namespace Go.Proofs.YtfnnjkbhmoomjaaGreatDoor
open Go Go.Fen
set_option linter.unusedSimpArgs false
set_option linter.unusedVariables false
attribute [local irreducible] RunX WP ACall AnyP OpA ProtL
set_option maxRecDepth 8000
end Go.Proofs.YtfnnjkbhmoomjaaGreatDoor
namespace Go.Proofs.YtfnnjkbhmoomjaaGreatDoor
open Go Go.Fen
set_option linter.unusedSimpArgs false
set_option linter.unusedVariables false
attribute [local irreducible] RunX WP ACall AnyP OpA ProtL
set_option maxRecDepth 8000
theorem tmK (a b : Nat) : (a : Int).tmod (b : Int) = ((a % b : Nat) : Int) := by rw [Int.tmod_eq_emod_of_nonneg (by omega)]; omega
theorem tdK (a b : Nat) (h : a < 4294967296) : IntKind.i64.wrap ((a : Int).tdiv (b : Int)) = ((a / b : Nat) : Int) := by
  have := Nat.div_le_self a b
  rw [Int.tdiv_eq_ediv_of_nonneg (by omega), ← Int.natCast_ediv]
  generalize a / b = q at *
  exact IntWalk.i64_in _ (by omega)
end Go.Proofs.YtfnnjkbhmoomjaaGreatDoor
namespace Go.Proofs.YtfnnjkbhmoomjaaGreatDoor
open Go Go.Fen
set_option linter.unusedSimpArgs false
set_option linter.unusedVariables false
attribute [local irreducible] RunX WP ACall AnyP OpA ProtL
set_option maxRecDepth 8000
end Go.Proofs.YtfnnjkbhmoomjaaGreatDoor
namespace Go.Proofs.YtfnnjkbhmoomjaaGreatDoor
open Go Go.Fen
set_option linter.unusedSimpArgs false
set_option linter.unusedVariables false
attribute [local irreducible] RunX WP ACall AnyP OpA ProtL
set_option maxRecDepth 8000
end Go.Proofs.YtfnnjkbhmoomjaaGreatDoor
