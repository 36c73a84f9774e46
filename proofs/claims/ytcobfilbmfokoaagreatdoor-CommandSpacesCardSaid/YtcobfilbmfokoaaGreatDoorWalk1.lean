/- YtcobfilbmfokoaaGreatDoorWalk1. Texts of the proof of a law about recordings: a layer of abstract values above the worlds, the types, the walks of the functions that the law reaches, the law and its card. Own work of an AI agent. -/
import Derived.Test.YtcobfilbmfokoaaGreatDoorWalk0
import Derived.Test.YtcobfilbmfokoaaGreatDoorCore1
import Derived.Lib.ItoaMem
set_option linter.all false
set_option linter.unusedVariables false
set_option linter.unusedSimpArgs false
namespace Go.Proofs.YtcobfilbmfokoaaGreatDoor
open Go Go.Fen
set_option linter.unusedSimpArgs false
set_option linter.unusedVariables false
attribute [local irreducible] RunX WP ACall AnyP OpA ProtL
set_option maxRecDepth 8000
theorem spanL_lt : ∀ (n : Nat) (r : List Nat) (lo hi : Nat) (q : Nat × Nat), spanL n r lo hi = some q → q.1 ≤ (lo + 1) * 64 ^ n ∧ q.2 + 1 ≤ (hi + 1) * 64 ^ n
  | 0, r, lo, hi, q, h => by
    rw [spanL] at h; cases h; simp
  | n + 1, [], lo, hi, q, h => by
    rw [spanL] at h
    have := spanL_lt n [] _ _ q h
    rw [Nat.pow_succ, ← Nat.mul_assoc, ← Nat.mul_assoc]
    have e1 : (lo + 1) * 64 ^ n * 64 = (lo * 64 + 64) * 64 ^ n := by rw [Nat.mul_right_comm, Nat.add_mul]
    have e2 : (hi + 1) * 64 ^ n * 64 = (hi * 64 + 63 + 1) * 64 ^ n := by rw [Nat.mul_right_comm, Nat.add_mul]
    rw [e1, e2]
    refine ⟨Nat.le_trans this.1 (Nat.mul_le_mul_right _ (by omega)), this.2⟩
  | n + 1, b :: r, lo, hi, q, h => by
    rw [spanL] at h
    split at h
    · cases h
    · have := spanL_lt n r _ _ q h
      rw [Nat.pow_succ, ← Nat.mul_assoc, ← Nat.mul_assoc]
      have e1 : (lo + 1) * 64 ^ n * 64 = (lo * 64 + 64) * 64 ^ n := by rw [Nat.mul_right_comm, Nat.add_mul]
      have e2 : (hi + 1) * 64 ^ n * 64 = (hi * 64 + 64) * 64 ^ n := by rw [Nat.mul_right_comm, Nat.add_mul]
      rw [e1, e2]
      refine ⟨Nat.le_trans this.1 (Nat.mul_le_mul_right _ (by omega)), Nat.le_trans this.2 (Nat.mul_le_mul_right _ (by omega))⟩
theorem spanR_le (p : List Nat) (hp : ∀ x ∈ p, x < 256) : (spanR p).1 ≤ 134217728 ∧ (spanR p).2.1 ≤ 134217728 ∧ (spanR p).2.2 ≤ 4 := by
  cases p with
  | nil => simp [spanR]
  | cons a r =>
    have hf := firstR_le a (hp a (List.mem_cons_self ..))
    rw [spanR]
    cases hs : spanL ((firstR a).1 - 1) r (firstR a).2 (firstR a).2 with
    | none => simp
    | some q =>
      have := spanL_lt _ _ _ _ _ hs
      obtain ⟨lo, hi⟩ := q
      simp only at this ⊢
      have h3 : 64 ^ ((firstR a).1 - 1) ≤ 262144 := Nat.pow_le_pow_right (by decide : 64 > 0) (show (firstR a).1 - 1 ≤ 3 by omega)
      have h4 : ((firstR a).2 + 1) * 64 ^ ((firstR a).1 - 1) ≤ 257 * 262144 := Nat.mul_le_mul (by omega) h3
      split
      · simp
      · simp only; omega
set_option maxHeartbeats 4000000 in
theorem rGoes (w0 : World) (S : List Blk) (p : List Nat) (hp : ∀ x ∈ p, x < 256) (h4 : p.length ≤ 4) (R : AOut → List Blk → Prop) (h : R (.ret (.tup [.bool (goesR p).1, .bool (goesR p).2])) S) : ACall Tryz.prog w0 90 [.sval false (p.map By)] S R := by
  have hs := fun S' => rSpan w0 S' p hp h4
  have hle := spanR_le p hp
  unfold spanV at hs
  unfold goesR at h
  simp only at h
  generalize spanR p = q at hs hle h
  obtain ⟨lo, hi, n⟩ := q
  simp only at hs hle h
  obtain ⟨l1, l2, l3⟩ := hle
  have hn : n = 0 ∨ n = 1 ∨ n = 2 ∨ n = 3 ∨ n = 4 := by omega
  clear hp h4 l1 l2 l3
  rcases hn with rfl | rfl | rfl | rfl | rfl
  · have h : R (.ret (.tup [.bool false, .bool false])) S := h
    have e0 : (((0 : Nat) : Int) == 0) = true := rfl
    refine enter Tryz.func90 rfl (by decide +kernel) (by rw [Tryz.ntmps90]; simp) (by rw [Tryz.ntmps90]; decide) (fun hO => ?_); rw [Tryz.ntmps90]
    repeat' first | apply x_seq | apply x_skip | apply x_block | apply x_exit | apply x_ret | apply x_ops_nil | apply p_blk | apply p_exit_it | apply p_exit_hit | apply p_ret_it | apply p_ret_blk | apply p_panic_it | apply p_panic_blk | apply p_end | (apply p_exit_miss; (· rfl)) | (apply x_region; simp only [List.toList_toArray]) | (apply x_step0; (· rfl); (· simp only [go_sem, *]; try rfl); (· rfl); simp only [putA]) | (apply x_callA []; (· simp only [go_sem, *]; try rfl); (· rfl); (· simp only [go_sem, *]; try rfl); (· rfl); (iterate 2 (· simp only [go_sem, *]; try rfl)); (first | apply hs); simp only [afterCall, putA]) | (apply x_panic; (· simp only [go_sem, *]; try rfl); (· rfl); (· simp only [go_sem, *]; try rfl)) | (apply x_step; (iterate 2 (· simp only [go_sem, *]; try rfl)); (· rfl); simp only [putA]) | (apply x_unwanted; (· simp only [go_sem, *]; try rfl); (· rfl); simp only [putA]) | (apply x_condT; (· simp only [go_sem, *]; try rfl)) | (apply x_condF; (· simp only [go_sem, *]; try rfl)) | (apply x_guardS; (· rfl); (fail_if_success (focus (show _ = some true; (· simp only [go_sem, *]; try rfl)))); (· simp only [go_sem, *]; try rfl); all_goals (intro hb; try simp only [Bool.not_eq_true', Bool.not_eq_false'] at hb)) | (apply x_condS; (· simp only [go_sem, *]; try rfl); all_goals (intro hb; try simp only [Bool.not_eq_true', Bool.not_eq_false'] at hb)) | fail
    (apply f_ret; iterate 7 (· simp only [go_sem, *, Tryz.results90]; try rfl))
    exact h
  all_goals
    rw [if_neg (by decide)] at h
    simp only [leastR, mostR] at h
  · have e0 : (((1 : Nat) : Int) == 0) = false := rfl
    obtain ⟨L, hL⟩ : ∃ L, max lo 0 = L := ⟨_, rfl⟩
    obtain ⟨M, hM⟩ : ∃ M, min hi 127 = M := ⟨_, rfl⟩
    rw [hL, hM] at h
    have m1 : (if (0 : Int) > (lo : Int) then (0 : Int) else (lo : Int)) = (L : Int) := by rw [← hL]; split <;> omega
    have m2 : (if (127 : Int) < (hi : Int) then (127 : Int) else (hi : Int)) = (M : Int) := by rw [← hM]; split <;> omega
    replace hM : M ≤ 127 := by omega
    clear hL
    by_cases c1 : L ≤ M
    · have d1 : decide ((L : Int) ≤ (M : Int)) = true := by simp; omega
      by_cases c2 : 55296 ≤ L
      · exact absurd c1 (by omega)
      · have d2 : decide ((55296 : Int) ≤ (L : Int)) = false := by simp; omega
        by_cases c4 : p.length = 1
        · have d4 : ((p.length : Int) == ((1 : Nat) : Int)) = true := by rw [beq_iff_eq]; omega
          simp only [decide_eq_true c1, decide_eq_false c2, decide_eq_true c4, Bool.true_and, Bool.false_and, Bool.and_true, Bool.not_true, Bool.not_false, Bool.and_false] at h
          clear hM c1 c2 c4
          refine enter Tryz.func90 rfl (by decide +kernel) (by rw [Tryz.ntmps90]; simp) (by rw [Tryz.ntmps90]; decide) (fun hO => ?_); rw [Tryz.ntmps90]
          repeat' first | apply x_seq | apply x_skip | apply x_block | apply x_exit | apply x_ret | apply x_ops_nil | apply p_blk | apply p_exit_it | apply p_exit_hit | apply p_ret_it | apply p_ret_blk | apply p_panic_it | apply p_panic_blk | apply p_end | (apply p_exit_miss; (· rfl)) | (apply x_region; simp only [List.toList_toArray]) | (apply x_step0; (· rfl); (· simp only [go_sem, *]; try rfl); (· rfl); simp only [putA]) | (apply x_callA []; (· simp only [go_sem, *]; try rfl); (· rfl); (· simp only [go_sem, *]; try rfl); (· rfl); (iterate 2 (· simp only [go_sem, *]; try rfl)); (first | apply hs); simp only [afterCall, putA]) | (apply x_panic; (· simp only [go_sem, *]; try rfl); (· rfl); (· simp only [go_sem, *]; try rfl)) | (apply x_step; (iterate 2 (· simp only [go_sem, *]; try rfl)); (· rfl); simp only [putA]) | (apply x_unwanted; (· simp only [go_sem, *]; try rfl); (· rfl); simp only [putA]) | (apply x_condT; (· simp only [go_sem, *]; try rfl)) | (apply x_condF; (· simp only [go_sem, *]; try rfl)) | (apply x_guardS; (· rfl); (fail_if_success (focus (show _ = some true; (· simp only [go_sem, *]; try rfl)))); (· simp only [go_sem, *]; try rfl); all_goals (intro hb; try simp only [Bool.not_eq_true', Bool.not_eq_false'] at hb)) | (apply x_condS; (· simp only [go_sem, *]; try rfl); all_goals (intro hb; try simp only [Bool.not_eq_true', Bool.not_eq_false'] at hb)) | (apply d_draw; (· exact mixed); (· simp only [List.size_toArray, List.length_cons, List.length_nil, Nat.reduceAdd]; try rfl)) | (apply d_done; (· decide +kernel)) | (apply a_0; (repeat (apply a_s; (· decide +kernel))); first | (apply a_take; (· decide +kernel); (· first | exact qds_FPost | exact qds_RPost | exact qds_YB | assumption); (· rfl); (iterate 3 (· simp only [go_sem, *]; try rfl)); (· rfl); (· simp only [go_sem, *]; try rfl); simp only [putA]) | (apply a_unw; (· decide +kernel); (· first | exact qds_FPost | exact qds_RPost | exact qds_YB | assumption); (· rfl); (iterate 2 (· simp only [go_sem, *]; try rfl)); (· rfl); simp only [putA])) | (apply a_0; (repeat (apply a_o; (· decide +kernel))); apply a_one; (· decide +kernel)) | (apply o_step; (iterate 3 (· simp only [go_sem, *]; try rfl)); (· rfl); simp only [putA]) | (apply o_unw; (iterate 2 (· simp only [go_sem, *]; try rfl)); (· rfl); simp only [putA]) | apply pr_nil | apply pr_same | apply pr_go | apply pl_nil | apply pl_none | (apply pl_skip; (· decide +kernel)) | (apply pl_one; (· simp only [go_sem, *]; try rfl)) | (apply o_call []; (iterate 2 (· simp only [go_sem, *]; try rfl)); (· rfl); (· simp only [go_sem, *]; try rfl); (· rfl); (iterate 2 (· simp only [go_sem, *]; try rfl)); (first | apply hs); simp only [afterOp, putA]) | fail
          (apply f_ret; iterate 7 (· simp only [go_sem, *, Tryz.results90]; try rfl))
          exact h
        · have d4 : ((p.length : Int) == ((1 : Nat) : Int)) = false := by rw [beq_eq_false_iff_ne]; omega
          simp only [decide_eq_true c1, decide_eq_false c2, decide_eq_false c4, Bool.true_and, Bool.false_and, Bool.and_true, Bool.not_true, Bool.not_false, Bool.and_false] at h
          clear hM c1 c2 c4
          refine enter Tryz.func90 rfl (by decide +kernel) (by rw [Tryz.ntmps90]; simp) (by rw [Tryz.ntmps90]; decide) (fun hO => ?_); rw [Tryz.ntmps90]
          repeat' first | apply x_seq | apply x_skip | apply x_block | apply x_exit | apply x_ret | apply x_ops_nil | apply p_blk | apply p_exit_it | apply p_exit_hit | apply p_ret_it | apply p_ret_blk | apply p_panic_it | apply p_panic_blk | apply p_end | (apply p_exit_miss; (· rfl)) | (apply x_region; simp only [List.toList_toArray]) | (apply x_step0; (· rfl); (· simp only [go_sem, *]; try rfl); (· rfl); simp only [putA]) | (apply x_callA []; (· simp only [go_sem, *]; try rfl); (· rfl); (· simp only [go_sem, *]; try rfl); (· rfl); (iterate 2 (· simp only [go_sem, *]; try rfl)); (first | apply hs); simp only [afterCall, putA]) | (apply x_panic; (· simp only [go_sem, *]; try rfl); (· rfl); (· simp only [go_sem, *]; try rfl)) | (apply x_step; (iterate 2 (· simp only [go_sem, *]; try rfl)); (· rfl); simp only [putA]) | (apply x_unwanted; (· simp only [go_sem, *]; try rfl); (· rfl); simp only [putA]) | (apply x_condT; (· simp only [go_sem, *]; try rfl)) | (apply x_condF; (· simp only [go_sem, *]; try rfl)) | (apply x_guardS; (· rfl); (fail_if_success (focus (show _ = some true; (· simp only [go_sem, *]; try rfl)))); (· simp only [go_sem, *]; try rfl); all_goals (intro hb; try simp only [Bool.not_eq_true', Bool.not_eq_false'] at hb)) | (apply x_condS; (· simp only [go_sem, *]; try rfl); all_goals (intro hb; try simp only [Bool.not_eq_true', Bool.not_eq_false'] at hb)) | (apply d_draw; (· exact mixed); (· simp only [List.size_toArray, List.length_cons, List.length_nil, Nat.reduceAdd]; try rfl)) | (apply d_done; (· decide +kernel)) | (apply a_0; (repeat (apply a_s; (· decide +kernel))); first | (apply a_take; (· decide +kernel); (· first | exact qds_FPost | exact qds_RPost | exact qds_YB | assumption); (· rfl); (iterate 3 (· simp only [go_sem, *]; try rfl)); (· rfl); (· simp only [go_sem, *]; try rfl); simp only [putA]) | (apply a_unw; (· decide +kernel); (· first | exact qds_FPost | exact qds_RPost | exact qds_YB | assumption); (· rfl); (iterate 2 (· simp only [go_sem, *]; try rfl)); (· rfl); simp only [putA])) | (apply a_0; (repeat (apply a_o; (· decide +kernel))); apply a_one; (· decide +kernel)) | (apply o_step; (iterate 3 (· simp only [go_sem, *]; try rfl)); (· rfl); simp only [putA]) | (apply o_unw; (iterate 2 (· simp only [go_sem, *]; try rfl)); (· rfl); simp only [putA]) | apply pr_nil | apply pr_same | apply pr_go | apply pl_nil | apply pl_none | (apply pl_skip; (· decide +kernel)) | (apply pl_one; (· simp only [go_sem, *]; try rfl)) | (apply o_call []; (iterate 2 (· simp only [go_sem, *]; try rfl)); (· rfl); (· simp only [go_sem, *]; try rfl); (· rfl); (iterate 2 (· simp only [go_sem, *]; try rfl)); (first | apply hs); simp only [afterOp, putA]) | fail
          (apply f_ret; iterate 7 (· simp only [go_sem, *, Tryz.results90]; try rfl))
          exact h
    · have d1 : decide ((L : Int) ≤ (M : Int)) = false := by simp; omega
      simp only [decide_eq_false c1, Bool.true_and, Bool.false_and, Bool.and_true, Bool.not_true, Bool.not_false, Bool.and_false] at h
      clear hM c1
      refine enter Tryz.func90 rfl (by decide +kernel) (by rw [Tryz.ntmps90]; simp) (by rw [Tryz.ntmps90]; decide) (fun hO => ?_); rw [Tryz.ntmps90]
      repeat' first | apply x_seq | apply x_skip | apply x_block | apply x_exit | apply x_ret | apply x_ops_nil | apply p_blk | apply p_exit_it | apply p_exit_hit | apply p_ret_it | apply p_ret_blk | apply p_panic_it | apply p_panic_blk | apply p_end | (apply p_exit_miss; (· rfl)) | (apply x_region; simp only [List.toList_toArray]) | (apply x_step0; (· rfl); (· simp only [go_sem, *]; try rfl); (· rfl); simp only [putA]) | (apply x_callA []; (· simp only [go_sem, *]; try rfl); (· rfl); (· simp only [go_sem, *]; try rfl); (· rfl); (iterate 2 (· simp only [go_sem, *]; try rfl)); (first | apply hs); simp only [afterCall, putA]) | (apply x_panic; (· simp only [go_sem, *]; try rfl); (· rfl); (· simp only [go_sem, *]; try rfl)) | (apply x_step; (iterate 2 (· simp only [go_sem, *]; try rfl)); (· rfl); simp only [putA]) | (apply x_unwanted; (· simp only [go_sem, *]; try rfl); (· rfl); simp only [putA]) | (apply x_condT; (· simp only [go_sem, *]; try rfl)) | (apply x_condF; (· simp only [go_sem, *]; try rfl)) | (apply x_guardS; (· rfl); (fail_if_success (focus (show _ = some true; (· simp only [go_sem, *]; try rfl)))); (· simp only [go_sem, *]; try rfl); all_goals (intro hb; try simp only [Bool.not_eq_true', Bool.not_eq_false'] at hb)) | (apply x_condS; (· simp only [go_sem, *]; try rfl); all_goals (intro hb; try simp only [Bool.not_eq_true', Bool.not_eq_false'] at hb)) | (apply d_draw; (· exact mixed); (· simp only [List.size_toArray, List.length_cons, List.length_nil, Nat.reduceAdd]; try rfl)) | (apply d_done; (· decide +kernel)) | (apply a_0; (repeat (apply a_s; (· decide +kernel))); first | (apply a_take; (· decide +kernel); (· first | exact qds_FPost | exact qds_RPost | exact qds_YB | assumption); (· rfl); (iterate 3 (· simp only [go_sem, *]; try rfl)); (· rfl); (· simp only [go_sem, *]; try rfl); simp only [putA]) | (apply a_unw; (· decide +kernel); (· first | exact qds_FPost | exact qds_RPost | exact qds_YB | assumption); (· rfl); (iterate 2 (· simp only [go_sem, *]; try rfl)); (· rfl); simp only [putA])) | (apply a_0; (repeat (apply a_o; (· decide +kernel))); apply a_one; (· decide +kernel)) | (apply o_step; (iterate 3 (· simp only [go_sem, *]; try rfl)); (· rfl); simp only [putA]) | (apply o_unw; (iterate 2 (· simp only [go_sem, *]; try rfl)); (· rfl); simp only [putA]) | apply pr_nil | apply pr_same | apply pr_go | apply pl_nil | apply pl_none | (apply pl_skip; (· decide +kernel)) | (apply pl_one; (· simp only [go_sem, *]; try rfl)) | (apply o_call []; (iterate 2 (· simp only [go_sem, *]; try rfl)); (· rfl); (· simp only [go_sem, *]; try rfl); (· rfl); (iterate 2 (· simp only [go_sem, *]; try rfl)); (first | apply hs); simp only [afterOp, putA]) | fail
      (apply f_ret; iterate 7 (· simp only [go_sem, *, Tryz.results90]; try rfl))
      exact h
  · have e0 : (((2 : Nat) : Int) == 0) = false := rfl
    obtain ⟨L, hL⟩ : ∃ L, max lo 128 = L := ⟨_, rfl⟩
    obtain ⟨M, hM⟩ : ∃ M, min hi 2047 = M := ⟨_, rfl⟩
    rw [hL, hM] at h
    have m1 : (if (128 : Int) > (lo : Int) then (128 : Int) else (lo : Int)) = (L : Int) := by rw [← hL]; split <;> omega
    have m2 : (if (2047 : Int) < (hi : Int) then (2047 : Int) else (hi : Int)) = (M : Int) := by rw [← hM]; split <;> omega
    replace hM : M ≤ 2047 := by omega
    clear hL
    by_cases c1 : L ≤ M
    · have d1 : decide ((L : Int) ≤ (M : Int)) = true := by simp; omega
      by_cases c2 : 55296 ≤ L
      · exact absurd c1 (by omega)
      · have d2 : decide ((55296 : Int) ≤ (L : Int)) = false := by simp; omega
        by_cases c4 : p.length = 2
        · have d4 : ((p.length : Int) == ((2 : Nat) : Int)) = true := by rw [beq_iff_eq]; omega
          simp only [decide_eq_true c1, decide_eq_false c2, decide_eq_true c4, Bool.true_and, Bool.false_and, Bool.and_true, Bool.not_true, Bool.not_false, Bool.and_false] at h
          clear hM c1 c2 c4
          refine enter Tryz.func90 rfl (by decide +kernel) (by rw [Tryz.ntmps90]; simp) (by rw [Tryz.ntmps90]; decide) (fun hO => ?_); rw [Tryz.ntmps90]
          repeat' first | apply x_seq | apply x_skip | apply x_block | apply x_exit | apply x_ret | apply x_ops_nil | apply p_blk | apply p_exit_it | apply p_exit_hit | apply p_ret_it | apply p_ret_blk | apply p_panic_it | apply p_panic_blk | apply p_end | (apply p_exit_miss; (· rfl)) | (apply x_region; simp only [List.toList_toArray]) | (apply x_step0; (· rfl); (· simp only [go_sem, *]; try rfl); (· rfl); simp only [putA]) | (apply x_callA []; (· simp only [go_sem, *]; try rfl); (· rfl); (· simp only [go_sem, *]; try rfl); (· rfl); (iterate 2 (· simp only [go_sem, *]; try rfl)); (first | apply hs); simp only [afterCall, putA]) | (apply x_panic; (· simp only [go_sem, *]; try rfl); (· rfl); (· simp only [go_sem, *]; try rfl)) | (apply x_step; (iterate 2 (· simp only [go_sem, *]; try rfl)); (· rfl); simp only [putA]) | (apply x_unwanted; (· simp only [go_sem, *]; try rfl); (· rfl); simp only [putA]) | (apply x_condT; (· simp only [go_sem, *]; try rfl)) | (apply x_condF; (· simp only [go_sem, *]; try rfl)) | (apply x_guardS; (· rfl); (fail_if_success (focus (show _ = some true; (· simp only [go_sem, *]; try rfl)))); (· simp only [go_sem, *]; try rfl); all_goals (intro hb; try simp only [Bool.not_eq_true', Bool.not_eq_false'] at hb)) | (apply x_condS; (· simp only [go_sem, *]; try rfl); all_goals (intro hb; try simp only [Bool.not_eq_true', Bool.not_eq_false'] at hb)) | (apply d_draw; (· exact mixed); (· simp only [List.size_toArray, List.length_cons, List.length_nil, Nat.reduceAdd]; try rfl)) | (apply d_done; (· decide +kernel)) | (apply a_0; (repeat (apply a_s; (· decide +kernel))); first | (apply a_take; (· decide +kernel); (· first | exact qds_FPost | exact qds_RPost | exact qds_YB | assumption); (· rfl); (iterate 3 (· simp only [go_sem, *]; try rfl)); (· rfl); (· simp only [go_sem, *]; try rfl); simp only [putA]) | (apply a_unw; (· decide +kernel); (· first | exact qds_FPost | exact qds_RPost | exact qds_YB | assumption); (· rfl); (iterate 2 (· simp only [go_sem, *]; try rfl)); (· rfl); simp only [putA])) | (apply a_0; (repeat (apply a_o; (· decide +kernel))); apply a_one; (· decide +kernel)) | (apply o_step; (iterate 3 (· simp only [go_sem, *]; try rfl)); (· rfl); simp only [putA]) | (apply o_unw; (iterate 2 (· simp only [go_sem, *]; try rfl)); (· rfl); simp only [putA]) | apply pr_nil | apply pr_same | apply pr_go | apply pl_nil | apply pl_none | (apply pl_skip; (· decide +kernel)) | (apply pl_one; (· simp only [go_sem, *]; try rfl)) | (apply o_call []; (iterate 2 (· simp only [go_sem, *]; try rfl)); (· rfl); (· simp only [go_sem, *]; try rfl); (· rfl); (iterate 2 (· simp only [go_sem, *]; try rfl)); (first | apply hs); simp only [afterOp, putA]) | fail
          (apply f_ret; iterate 7 (· simp only [go_sem, *, Tryz.results90]; try rfl))
          exact h
        · have d4 : ((p.length : Int) == ((2 : Nat) : Int)) = false := by rw [beq_eq_false_iff_ne]; omega
          simp only [decide_eq_true c1, decide_eq_false c2, decide_eq_false c4, Bool.true_and, Bool.false_and, Bool.and_true, Bool.not_true, Bool.not_false, Bool.and_false] at h
          clear hM c1 c2 c4
          refine enter Tryz.func90 rfl (by decide +kernel) (by rw [Tryz.ntmps90]; simp) (by rw [Tryz.ntmps90]; decide) (fun hO => ?_); rw [Tryz.ntmps90]
          repeat' first | apply x_seq | apply x_skip | apply x_block | apply x_exit | apply x_ret | apply x_ops_nil | apply p_blk | apply p_exit_it | apply p_exit_hit | apply p_ret_it | apply p_ret_blk | apply p_panic_it | apply p_panic_blk | apply p_end | (apply p_exit_miss; (· rfl)) | (apply x_region; simp only [List.toList_toArray]) | (apply x_step0; (· rfl); (· simp only [go_sem, *]; try rfl); (· rfl); simp only [putA]) | (apply x_callA []; (· simp only [go_sem, *]; try rfl); (· rfl); (· simp only [go_sem, *]; try rfl); (· rfl); (iterate 2 (· simp only [go_sem, *]; try rfl)); (first | apply hs); simp only [afterCall, putA]) | (apply x_panic; (· simp only [go_sem, *]; try rfl); (· rfl); (· simp only [go_sem, *]; try rfl)) | (apply x_step; (iterate 2 (· simp only [go_sem, *]; try rfl)); (· rfl); simp only [putA]) | (apply x_unwanted; (· simp only [go_sem, *]; try rfl); (· rfl); simp only [putA]) | (apply x_condT; (· simp only [go_sem, *]; try rfl)) | (apply x_condF; (· simp only [go_sem, *]; try rfl)) | (apply x_guardS; (· rfl); (fail_if_success (focus (show _ = some true; (· simp only [go_sem, *]; try rfl)))); (· simp only [go_sem, *]; try rfl); all_goals (intro hb; try simp only [Bool.not_eq_true', Bool.not_eq_false'] at hb)) | (apply x_condS; (· simp only [go_sem, *]; try rfl); all_goals (intro hb; try simp only [Bool.not_eq_true', Bool.not_eq_false'] at hb)) | (apply d_draw; (· exact mixed); (· simp only [List.size_toArray, List.length_cons, List.length_nil, Nat.reduceAdd]; try rfl)) | (apply d_done; (· decide +kernel)) | (apply a_0; (repeat (apply a_s; (· decide +kernel))); first | (apply a_take; (· decide +kernel); (· first | exact qds_FPost | exact qds_RPost | exact qds_YB | assumption); (· rfl); (iterate 3 (· simp only [go_sem, *]; try rfl)); (· rfl); (· simp only [go_sem, *]; try rfl); simp only [putA]) | (apply a_unw; (· decide +kernel); (· first | exact qds_FPost | exact qds_RPost | exact qds_YB | assumption); (· rfl); (iterate 2 (· simp only [go_sem, *]; try rfl)); (· rfl); simp only [putA])) | (apply a_0; (repeat (apply a_o; (· decide +kernel))); apply a_one; (· decide +kernel)) | (apply o_step; (iterate 3 (· simp only [go_sem, *]; try rfl)); (· rfl); simp only [putA]) | (apply o_unw; (iterate 2 (· simp only [go_sem, *]; try rfl)); (· rfl); simp only [putA]) | apply pr_nil | apply pr_same | apply pr_go | apply pl_nil | apply pl_none | (apply pl_skip; (· decide +kernel)) | (apply pl_one; (· simp only [go_sem, *]; try rfl)) | (apply o_call []; (iterate 2 (· simp only [go_sem, *]; try rfl)); (· rfl); (· simp only [go_sem, *]; try rfl); (· rfl); (iterate 2 (· simp only [go_sem, *]; try rfl)); (first | apply hs); simp only [afterOp, putA]) | fail
          (apply f_ret; iterate 7 (· simp only [go_sem, *, Tryz.results90]; try rfl))
          exact h
    · have d1 : decide ((L : Int) ≤ (M : Int)) = false := by simp; omega
      simp only [decide_eq_false c1, Bool.true_and, Bool.false_and, Bool.and_true, Bool.not_true, Bool.not_false, Bool.and_false] at h
      clear hM c1
      refine enter Tryz.func90 rfl (by decide +kernel) (by rw [Tryz.ntmps90]; simp) (by rw [Tryz.ntmps90]; decide) (fun hO => ?_); rw [Tryz.ntmps90]
      repeat' first | apply x_seq | apply x_skip | apply x_block | apply x_exit | apply x_ret | apply x_ops_nil | apply p_blk | apply p_exit_it | apply p_exit_hit | apply p_ret_it | apply p_ret_blk | apply p_panic_it | apply p_panic_blk | apply p_end | (apply p_exit_miss; (· rfl)) | (apply x_region; simp only [List.toList_toArray]) | (apply x_step0; (· rfl); (· simp only [go_sem, *]; try rfl); (· rfl); simp only [putA]) | (apply x_callA []; (· simp only [go_sem, *]; try rfl); (· rfl); (· simp only [go_sem, *]; try rfl); (· rfl); (iterate 2 (· simp only [go_sem, *]; try rfl)); (first | apply hs); simp only [afterCall, putA]) | (apply x_panic; (· simp only [go_sem, *]; try rfl); (· rfl); (· simp only [go_sem, *]; try rfl)) | (apply x_step; (iterate 2 (· simp only [go_sem, *]; try rfl)); (· rfl); simp only [putA]) | (apply x_unwanted; (· simp only [go_sem, *]; try rfl); (· rfl); simp only [putA]) | (apply x_condT; (· simp only [go_sem, *]; try rfl)) | (apply x_condF; (· simp only [go_sem, *]; try rfl)) | (apply x_guardS; (· rfl); (fail_if_success (focus (show _ = some true; (· simp only [go_sem, *]; try rfl)))); (· simp only [go_sem, *]; try rfl); all_goals (intro hb; try simp only [Bool.not_eq_true', Bool.not_eq_false'] at hb)) | (apply x_condS; (· simp only [go_sem, *]; try rfl); all_goals (intro hb; try simp only [Bool.not_eq_true', Bool.not_eq_false'] at hb)) | (apply d_draw; (· exact mixed); (· simp only [List.size_toArray, List.length_cons, List.length_nil, Nat.reduceAdd]; try rfl)) | (apply d_done; (· decide +kernel)) | (apply a_0; (repeat (apply a_s; (· decide +kernel))); first | (apply a_take; (· decide +kernel); (· first | exact qds_FPost | exact qds_RPost | exact qds_YB | assumption); (· rfl); (iterate 3 (· simp only [go_sem, *]; try rfl)); (· rfl); (· simp only [go_sem, *]; try rfl); simp only [putA]) | (apply a_unw; (· decide +kernel); (· first | exact qds_FPost | exact qds_RPost | exact qds_YB | assumption); (· rfl); (iterate 2 (· simp only [go_sem, *]; try rfl)); (· rfl); simp only [putA])) | (apply a_0; (repeat (apply a_o; (· decide +kernel))); apply a_one; (· decide +kernel)) | (apply o_step; (iterate 3 (· simp only [go_sem, *]; try rfl)); (· rfl); simp only [putA]) | (apply o_unw; (iterate 2 (· simp only [go_sem, *]; try rfl)); (· rfl); simp only [putA]) | apply pr_nil | apply pr_same | apply pr_go | apply pl_nil | apply pl_none | (apply pl_skip; (· decide +kernel)) | (apply pl_one; (· simp only [go_sem, *]; try rfl)) | (apply o_call []; (iterate 2 (· simp only [go_sem, *]; try rfl)); (· rfl); (· simp only [go_sem, *]; try rfl); (· rfl); (iterate 2 (· simp only [go_sem, *]; try rfl)); (first | apply hs); simp only [afterOp, putA]) | fail
      (apply f_ret; iterate 7 (· simp only [go_sem, *, Tryz.results90]; try rfl))
      exact h
  · have e0 : (((3 : Nat) : Int) == 0) = false := rfl
    obtain ⟨L, hL⟩ : ∃ L, max lo 2048 = L := ⟨_, rfl⟩
    obtain ⟨M, hM⟩ : ∃ M, min hi 65535 = M := ⟨_, rfl⟩
    rw [hL, hM] at h
    have m1 : (if (2048 : Int) > (lo : Int) then (2048 : Int) else (lo : Int)) = (L : Int) := by rw [← hL]; split <;> omega
    have m2 : (if (65535 : Int) < (hi : Int) then (65535 : Int) else (hi : Int)) = (M : Int) := by rw [← hM]; split <;> omega
    replace hM : M ≤ 65535 := by omega
    clear hL
    by_cases c1 : L ≤ M
    · have d1 : decide ((L : Int) ≤ (M : Int)) = true := by simp; omega
      by_cases c2 : 55296 ≤ L
      · have d2 : decide ((55296 : Int) ≤ (L : Int)) = true := by simp; omega
        by_cases c3 : M ≤ 57343
        · have d3 : decide ((M : Int) ≤ 57343) = true := by simp; omega
          simp only [decide_eq_true c1, decide_eq_true c2, decide_eq_true c3, Bool.true_and, Bool.false_and, Bool.and_true, Bool.not_true, Bool.not_false, Bool.and_false] at h
          clear hM c1 c2 c3
          refine enter Tryz.func90 rfl (by decide +kernel) (by rw [Tryz.ntmps90]; simp) (by rw [Tryz.ntmps90]; decide) (fun hO => ?_); rw [Tryz.ntmps90]
          repeat' first | apply x_seq | apply x_skip | apply x_block | apply x_exit | apply x_ret | apply x_ops_nil | apply p_blk | apply p_exit_it | apply p_exit_hit | apply p_ret_it | apply p_ret_blk | apply p_panic_it | apply p_panic_blk | apply p_end | (apply p_exit_miss; (· rfl)) | (apply x_region; simp only [List.toList_toArray]) | (apply x_step0; (· rfl); (· simp only [go_sem, *]; try rfl); (· rfl); simp only [putA]) | (apply x_callA []; (· simp only [go_sem, *]; try rfl); (· rfl); (· simp only [go_sem, *]; try rfl); (· rfl); (iterate 2 (· simp only [go_sem, *]; try rfl)); (first | apply hs); simp only [afterCall, putA]) | (apply x_panic; (· simp only [go_sem, *]; try rfl); (· rfl); (· simp only [go_sem, *]; try rfl)) | (apply x_step; (iterate 2 (· simp only [go_sem, *]; try rfl)); (· rfl); simp only [putA]) | (apply x_unwanted; (· simp only [go_sem, *]; try rfl); (· rfl); simp only [putA]) | (apply x_condT; (· simp only [go_sem, *]; try rfl)) | (apply x_condF; (· simp only [go_sem, *]; try rfl)) | (apply x_guardS; (· rfl); (fail_if_success (focus (show _ = some true; (· simp only [go_sem, *]; try rfl)))); (· simp only [go_sem, *]; try rfl); all_goals (intro hb; try simp only [Bool.not_eq_true', Bool.not_eq_false'] at hb)) | (apply x_condS; (· simp only [go_sem, *]; try rfl); all_goals (intro hb; try simp only [Bool.not_eq_true', Bool.not_eq_false'] at hb)) | (apply d_draw; (· exact mixed); (· simp only [List.size_toArray, List.length_cons, List.length_nil, Nat.reduceAdd]; try rfl)) | (apply d_done; (· decide +kernel)) | (apply a_0; (repeat (apply a_s; (· decide +kernel))); first | (apply a_take; (· decide +kernel); (· first | exact qds_FPost | exact qds_RPost | exact qds_YB | assumption); (· rfl); (iterate 3 (· simp only [go_sem, *]; try rfl)); (· rfl); (· simp only [go_sem, *]; try rfl); simp only [putA]) | (apply a_unw; (· decide +kernel); (· first | exact qds_FPost | exact qds_RPost | exact qds_YB | assumption); (· rfl); (iterate 2 (· simp only [go_sem, *]; try rfl)); (· rfl); simp only [putA])) | (apply a_0; (repeat (apply a_o; (· decide +kernel))); apply a_one; (· decide +kernel)) | (apply o_step; (iterate 3 (· simp only [go_sem, *]; try rfl)); (· rfl); simp only [putA]) | (apply o_unw; (iterate 2 (· simp only [go_sem, *]; try rfl)); (· rfl); simp only [putA]) | apply pr_nil | apply pr_same | apply pr_go | apply pl_nil | apply pl_none | (apply pl_skip; (· decide +kernel)) | (apply pl_one; (· simp only [go_sem, *]; try rfl)) | (apply o_call []; (iterate 2 (· simp only [go_sem, *]; try rfl)); (· rfl); (· simp only [go_sem, *]; try rfl); (· rfl); (iterate 2 (· simp only [go_sem, *]; try rfl)); (first | apply hs); simp only [afterOp, putA]) | fail
          (apply f_ret; iterate 7 (· simp only [go_sem, *, Tryz.results90]; try rfl))
          exact h
        · have d3 : decide ((M : Int) ≤ 57343) = false := by simp; omega
          by_cases c4 : p.length = 3
          · have d4 : ((p.length : Int) == ((3 : Nat) : Int)) = true := by rw [beq_iff_eq]; omega
            simp only [decide_eq_true c1, decide_eq_true c2, decide_eq_false c3, decide_eq_true c4, Bool.true_and, Bool.false_and, Bool.and_true, Bool.not_true, Bool.not_false, Bool.and_false] at h
            clear hM c1 c2 c3 c4
            refine enter Tryz.func90 rfl (by decide +kernel) (by rw [Tryz.ntmps90]; simp) (by rw [Tryz.ntmps90]; decide) (fun hO => ?_); rw [Tryz.ntmps90]
            repeat' first | apply x_seq | apply x_skip | apply x_block | apply x_exit | apply x_ret | apply x_ops_nil | apply p_blk | apply p_exit_it | apply p_exit_hit | apply p_ret_it | apply p_ret_blk | apply p_panic_it | apply p_panic_blk | apply p_end | (apply p_exit_miss; (· rfl)) | (apply x_region; simp only [List.toList_toArray]) | (apply x_step0; (· rfl); (· simp only [go_sem, *]; try rfl); (· rfl); simp only [putA]) | (apply x_callA []; (· simp only [go_sem, *]; try rfl); (· rfl); (· simp only [go_sem, *]; try rfl); (· rfl); (iterate 2 (· simp only [go_sem, *]; try rfl)); (first | apply hs); simp only [afterCall, putA]) | (apply x_panic; (· simp only [go_sem, *]; try rfl); (· rfl); (· simp only [go_sem, *]; try rfl)) | (apply x_step; (iterate 2 (· simp only [go_sem, *]; try rfl)); (· rfl); simp only [putA]) | (apply x_unwanted; (· simp only [go_sem, *]; try rfl); (· rfl); simp only [putA]) | (apply x_condT; (· simp only [go_sem, *]; try rfl)) | (apply x_condF; (· simp only [go_sem, *]; try rfl)) | (apply x_guardS; (· rfl); (fail_if_success (focus (show _ = some true; (· simp only [go_sem, *]; try rfl)))); (· simp only [go_sem, *]; try rfl); all_goals (intro hb; try simp only [Bool.not_eq_true', Bool.not_eq_false'] at hb)) | (apply x_condS; (· simp only [go_sem, *]; try rfl); all_goals (intro hb; try simp only [Bool.not_eq_true', Bool.not_eq_false'] at hb)) | (apply d_draw; (· exact mixed); (· simp only [List.size_toArray, List.length_cons, List.length_nil, Nat.reduceAdd]; try rfl)) | (apply d_done; (· decide +kernel)) | (apply a_0; (repeat (apply a_s; (· decide +kernel))); first | (apply a_take; (· decide +kernel); (· first | exact qds_FPost | exact qds_RPost | exact qds_YB | assumption); (· rfl); (iterate 3 (· simp only [go_sem, *]; try rfl)); (· rfl); (· simp only [go_sem, *]; try rfl); simp only [putA]) | (apply a_unw; (· decide +kernel); (· first | exact qds_FPost | exact qds_RPost | exact qds_YB | assumption); (· rfl); (iterate 2 (· simp only [go_sem, *]; try rfl)); (· rfl); simp only [putA])) | (apply a_0; (repeat (apply a_o; (· decide +kernel))); apply a_one; (· decide +kernel)) | (apply o_step; (iterate 3 (· simp only [go_sem, *]; try rfl)); (· rfl); simp only [putA]) | (apply o_unw; (iterate 2 (· simp only [go_sem, *]; try rfl)); (· rfl); simp only [putA]) | apply pr_nil | apply pr_same | apply pr_go | apply pl_nil | apply pl_none | (apply pl_skip; (· decide +kernel)) | (apply pl_one; (· simp only [go_sem, *]; try rfl)) | (apply o_call []; (iterate 2 (· simp only [go_sem, *]; try rfl)); (· rfl); (· simp only [go_sem, *]; try rfl); (· rfl); (iterate 2 (· simp only [go_sem, *]; try rfl)); (first | apply hs); simp only [afterOp, putA]) | fail
            (apply f_ret; iterate 7 (· simp only [go_sem, *, Tryz.results90]; try rfl))
            exact h
          · have d4 : ((p.length : Int) == ((3 : Nat) : Int)) = false := by rw [beq_eq_false_iff_ne]; omega
            simp only [decide_eq_true c1, decide_eq_true c2, decide_eq_false c3, decide_eq_false c4, Bool.true_and, Bool.false_and, Bool.and_true, Bool.not_true, Bool.not_false, Bool.and_false] at h
            clear hM c1 c2 c3 c4
            refine enter Tryz.func90 rfl (by decide +kernel) (by rw [Tryz.ntmps90]; simp) (by rw [Tryz.ntmps90]; decide) (fun hO => ?_); rw [Tryz.ntmps90]
            repeat' first | apply x_seq | apply x_skip | apply x_block | apply x_exit | apply x_ret | apply x_ops_nil | apply p_blk | apply p_exit_it | apply p_exit_hit | apply p_ret_it | apply p_ret_blk | apply p_panic_it | apply p_panic_blk | apply p_end | (apply p_exit_miss; (· rfl)) | (apply x_region; simp only [List.toList_toArray]) | (apply x_step0; (· rfl); (· simp only [go_sem, *]; try rfl); (· rfl); simp only [putA]) | (apply x_callA []; (· simp only [go_sem, *]; try rfl); (· rfl); (· simp only [go_sem, *]; try rfl); (· rfl); (iterate 2 (· simp only [go_sem, *]; try rfl)); (first | apply hs); simp only [afterCall, putA]) | (apply x_panic; (· simp only [go_sem, *]; try rfl); (· rfl); (· simp only [go_sem, *]; try rfl)) | (apply x_step; (iterate 2 (· simp only [go_sem, *]; try rfl)); (· rfl); simp only [putA]) | (apply x_unwanted; (· simp only [go_sem, *]; try rfl); (· rfl); simp only [putA]) | (apply x_condT; (· simp only [go_sem, *]; try rfl)) | (apply x_condF; (· simp only [go_sem, *]; try rfl)) | (apply x_guardS; (· rfl); (fail_if_success (focus (show _ = some true; (· simp only [go_sem, *]; try rfl)))); (· simp only [go_sem, *]; try rfl); all_goals (intro hb; try simp only [Bool.not_eq_true', Bool.not_eq_false'] at hb)) | (apply x_condS; (· simp only [go_sem, *]; try rfl); all_goals (intro hb; try simp only [Bool.not_eq_true', Bool.not_eq_false'] at hb)) | (apply d_draw; (· exact mixed); (· simp only [List.size_toArray, List.length_cons, List.length_nil, Nat.reduceAdd]; try rfl)) | (apply d_done; (· decide +kernel)) | (apply a_0; (repeat (apply a_s; (· decide +kernel))); first | (apply a_take; (· decide +kernel); (· first | exact qds_FPost | exact qds_RPost | exact qds_YB | assumption); (· rfl); (iterate 3 (· simp only [go_sem, *]; try rfl)); (· rfl); (· simp only [go_sem, *]; try rfl); simp only [putA]) | (apply a_unw; (· decide +kernel); (· first | exact qds_FPost | exact qds_RPost | exact qds_YB | assumption); (· rfl); (iterate 2 (· simp only [go_sem, *]; try rfl)); (· rfl); simp only [putA])) | (apply a_0; (repeat (apply a_o; (· decide +kernel))); apply a_one; (· decide +kernel)) | (apply o_step; (iterate 3 (· simp only [go_sem, *]; try rfl)); (· rfl); simp only [putA]) | (apply o_unw; (iterate 2 (· simp only [go_sem, *]; try rfl)); (· rfl); simp only [putA]) | apply pr_nil | apply pr_same | apply pr_go | apply pl_nil | apply pl_none | (apply pl_skip; (· decide +kernel)) | (apply pl_one; (· simp only [go_sem, *]; try rfl)) | (apply o_call []; (iterate 2 (· simp only [go_sem, *]; try rfl)); (· rfl); (· simp only [go_sem, *]; try rfl); (· rfl); (iterate 2 (· simp only [go_sem, *]; try rfl)); (first | apply hs); simp only [afterOp, putA]) | fail
            (apply f_ret; iterate 7 (· simp only [go_sem, *, Tryz.results90]; try rfl))
            exact h
      · have d2 : decide ((55296 : Int) ≤ (L : Int)) = false := by simp; omega
        by_cases c4 : p.length = 3
        · have d4 : ((p.length : Int) == ((3 : Nat) : Int)) = true := by rw [beq_iff_eq]; omega
          simp only [decide_eq_true c1, decide_eq_false c2, decide_eq_true c4, Bool.true_and, Bool.false_and, Bool.and_true, Bool.not_true, Bool.not_false, Bool.and_false] at h
          clear hM c1 c2 c4
          refine enter Tryz.func90 rfl (by decide +kernel) (by rw [Tryz.ntmps90]; simp) (by rw [Tryz.ntmps90]; decide) (fun hO => ?_); rw [Tryz.ntmps90]
          repeat' first | apply x_seq | apply x_skip | apply x_block | apply x_exit | apply x_ret | apply x_ops_nil | apply p_blk | apply p_exit_it | apply p_exit_hit | apply p_ret_it | apply p_ret_blk | apply p_panic_it | apply p_panic_blk | apply p_end | (apply p_exit_miss; (· rfl)) | (apply x_region; simp only [List.toList_toArray]) | (apply x_step0; (· rfl); (· simp only [go_sem, *]; try rfl); (· rfl); simp only [putA]) | (apply x_callA []; (· simp only [go_sem, *]; try rfl); (· rfl); (· simp only [go_sem, *]; try rfl); (· rfl); (iterate 2 (· simp only [go_sem, *]; try rfl)); (first | apply hs); simp only [afterCall, putA]) | (apply x_panic; (· simp only [go_sem, *]; try rfl); (· rfl); (· simp only [go_sem, *]; try rfl)) | (apply x_step; (iterate 2 (· simp only [go_sem, *]; try rfl)); (· rfl); simp only [putA]) | (apply x_unwanted; (· simp only [go_sem, *]; try rfl); (· rfl); simp only [putA]) | (apply x_condT; (· simp only [go_sem, *]; try rfl)) | (apply x_condF; (· simp only [go_sem, *]; try rfl)) | (apply x_guardS; (· rfl); (fail_if_success (focus (show _ = some true; (· simp only [go_sem, *]; try rfl)))); (· simp only [go_sem, *]; try rfl); all_goals (intro hb; try simp only [Bool.not_eq_true', Bool.not_eq_false'] at hb)) | (apply x_condS; (· simp only [go_sem, *]; try rfl); all_goals (intro hb; try simp only [Bool.not_eq_true', Bool.not_eq_false'] at hb)) | (apply d_draw; (· exact mixed); (· simp only [List.size_toArray, List.length_cons, List.length_nil, Nat.reduceAdd]; try rfl)) | (apply d_done; (· decide +kernel)) | (apply a_0; (repeat (apply a_s; (· decide +kernel))); first | (apply a_take; (· decide +kernel); (· first | exact qds_FPost | exact qds_RPost | exact qds_YB | assumption); (· rfl); (iterate 3 (· simp only [go_sem, *]; try rfl)); (· rfl); (· simp only [go_sem, *]; try rfl); simp only [putA]) | (apply a_unw; (· decide +kernel); (· first | exact qds_FPost | exact qds_RPost | exact qds_YB | assumption); (· rfl); (iterate 2 (· simp only [go_sem, *]; try rfl)); (· rfl); simp only [putA])) | (apply a_0; (repeat (apply a_o; (· decide +kernel))); apply a_one; (· decide +kernel)) | (apply o_step; (iterate 3 (· simp only [go_sem, *]; try rfl)); (· rfl); simp only [putA]) | (apply o_unw; (iterate 2 (· simp only [go_sem, *]; try rfl)); (· rfl); simp only [putA]) | apply pr_nil | apply pr_same | apply pr_go | apply pl_nil | apply pl_none | (apply pl_skip; (· decide +kernel)) | (apply pl_one; (· simp only [go_sem, *]; try rfl)) | (apply o_call []; (iterate 2 (· simp only [go_sem, *]; try rfl)); (· rfl); (· simp only [go_sem, *]; try rfl); (· rfl); (iterate 2 (· simp only [go_sem, *]; try rfl)); (first | apply hs); simp only [afterOp, putA]) | fail
          (apply f_ret; iterate 7 (· simp only [go_sem, *, Tryz.results90]; try rfl))
          exact h
        · have d4 : ((p.length : Int) == ((3 : Nat) : Int)) = false := by rw [beq_eq_false_iff_ne]; omega
          simp only [decide_eq_true c1, decide_eq_false c2, decide_eq_false c4, Bool.true_and, Bool.false_and, Bool.and_true, Bool.not_true, Bool.not_false, Bool.and_false] at h
          clear hM c1 c2 c4
          refine enter Tryz.func90 rfl (by decide +kernel) (by rw [Tryz.ntmps90]; simp) (by rw [Tryz.ntmps90]; decide) (fun hO => ?_); rw [Tryz.ntmps90]
          repeat' first | apply x_seq | apply x_skip | apply x_block | apply x_exit | apply x_ret | apply x_ops_nil | apply p_blk | apply p_exit_it | apply p_exit_hit | apply p_ret_it | apply p_ret_blk | apply p_panic_it | apply p_panic_blk | apply p_end | (apply p_exit_miss; (· rfl)) | (apply x_region; simp only [List.toList_toArray]) | (apply x_step0; (· rfl); (· simp only [go_sem, *]; try rfl); (· rfl); simp only [putA]) | (apply x_callA []; (· simp only [go_sem, *]; try rfl); (· rfl); (· simp only [go_sem, *]; try rfl); (· rfl); (iterate 2 (· simp only [go_sem, *]; try rfl)); (first | apply hs); simp only [afterCall, putA]) | (apply x_panic; (· simp only [go_sem, *]; try rfl); (· rfl); (· simp only [go_sem, *]; try rfl)) | (apply x_step; (iterate 2 (· simp only [go_sem, *]; try rfl)); (· rfl); simp only [putA]) | (apply x_unwanted; (· simp only [go_sem, *]; try rfl); (· rfl); simp only [putA]) | (apply x_condT; (· simp only [go_sem, *]; try rfl)) | (apply x_condF; (· simp only [go_sem, *]; try rfl)) | (apply x_guardS; (· rfl); (fail_if_success (focus (show _ = some true; (· simp only [go_sem, *]; try rfl)))); (· simp only [go_sem, *]; try rfl); all_goals (intro hb; try simp only [Bool.not_eq_true', Bool.not_eq_false'] at hb)) | (apply x_condS; (· simp only [go_sem, *]; try rfl); all_goals (intro hb; try simp only [Bool.not_eq_true', Bool.not_eq_false'] at hb)) | (apply d_draw; (· exact mixed); (· simp only [List.size_toArray, List.length_cons, List.length_nil, Nat.reduceAdd]; try rfl)) | (apply d_done; (· decide +kernel)) | (apply a_0; (repeat (apply a_s; (· decide +kernel))); first | (apply a_take; (· decide +kernel); (· first | exact qds_FPost | exact qds_RPost | exact qds_YB | assumption); (· rfl); (iterate 3 (· simp only [go_sem, *]; try rfl)); (· rfl); (· simp only [go_sem, *]; try rfl); simp only [putA]) | (apply a_unw; (· decide +kernel); (· first | exact qds_FPost | exact qds_RPost | exact qds_YB | assumption); (· rfl); (iterate 2 (· simp only [go_sem, *]; try rfl)); (· rfl); simp only [putA])) | (apply a_0; (repeat (apply a_o; (· decide +kernel))); apply a_one; (· decide +kernel)) | (apply o_step; (iterate 3 (· simp only [go_sem, *]; try rfl)); (· rfl); simp only [putA]) | (apply o_unw; (iterate 2 (· simp only [go_sem, *]; try rfl)); (· rfl); simp only [putA]) | apply pr_nil | apply pr_same | apply pr_go | apply pl_nil | apply pl_none | (apply pl_skip; (· decide +kernel)) | (apply pl_one; (· simp only [go_sem, *]; try rfl)) | (apply o_call []; (iterate 2 (· simp only [go_sem, *]; try rfl)); (· rfl); (· simp only [go_sem, *]; try rfl); (· rfl); (iterate 2 (· simp only [go_sem, *]; try rfl)); (first | apply hs); simp only [afterOp, putA]) | fail
          (apply f_ret; iterate 7 (· simp only [go_sem, *, Tryz.results90]; try rfl))
          exact h
    · have d1 : decide ((L : Int) ≤ (M : Int)) = false := by simp; omega
      simp only [decide_eq_false c1, Bool.true_and, Bool.false_and, Bool.and_true, Bool.not_true, Bool.not_false, Bool.and_false] at h
      clear hM c1
      refine enter Tryz.func90 rfl (by decide +kernel) (by rw [Tryz.ntmps90]; simp) (by rw [Tryz.ntmps90]; decide) (fun hO => ?_); rw [Tryz.ntmps90]
      repeat' first | apply x_seq | apply x_skip | apply x_block | apply x_exit | apply x_ret | apply x_ops_nil | apply p_blk | apply p_exit_it | apply p_exit_hit | apply p_ret_it | apply p_ret_blk | apply p_panic_it | apply p_panic_blk | apply p_end | (apply p_exit_miss; (· rfl)) | (apply x_region; simp only [List.toList_toArray]) | (apply x_step0; (· rfl); (· simp only [go_sem, *]; try rfl); (· rfl); simp only [putA]) | (apply x_callA []; (· simp only [go_sem, *]; try rfl); (· rfl); (· simp only [go_sem, *]; try rfl); (· rfl); (iterate 2 (· simp only [go_sem, *]; try rfl)); (first | apply hs); simp only [afterCall, putA]) | (apply x_panic; (· simp only [go_sem, *]; try rfl); (· rfl); (· simp only [go_sem, *]; try rfl)) | (apply x_step; (iterate 2 (· simp only [go_sem, *]; try rfl)); (· rfl); simp only [putA]) | (apply x_unwanted; (· simp only [go_sem, *]; try rfl); (· rfl); simp only [putA]) | (apply x_condT; (· simp only [go_sem, *]; try rfl)) | (apply x_condF; (· simp only [go_sem, *]; try rfl)) | (apply x_guardS; (· rfl); (fail_if_success (focus (show _ = some true; (· simp only [go_sem, *]; try rfl)))); (· simp only [go_sem, *]; try rfl); all_goals (intro hb; try simp only [Bool.not_eq_true', Bool.not_eq_false'] at hb)) | (apply x_condS; (· simp only [go_sem, *]; try rfl); all_goals (intro hb; try simp only [Bool.not_eq_true', Bool.not_eq_false'] at hb)) | (apply d_draw; (· exact mixed); (· simp only [List.size_toArray, List.length_cons, List.length_nil, Nat.reduceAdd]; try rfl)) | (apply d_done; (· decide +kernel)) | (apply a_0; (repeat (apply a_s; (· decide +kernel))); first | (apply a_take; (· decide +kernel); (· first | exact qds_FPost | exact qds_RPost | exact qds_YB | assumption); (· rfl); (iterate 3 (· simp only [go_sem, *]; try rfl)); (· rfl); (· simp only [go_sem, *]; try rfl); simp only [putA]) | (apply a_unw; (· decide +kernel); (· first | exact qds_FPost | exact qds_RPost | exact qds_YB | assumption); (· rfl); (iterate 2 (· simp only [go_sem, *]; try rfl)); (· rfl); simp only [putA])) | (apply a_0; (repeat (apply a_o; (· decide +kernel))); apply a_one; (· decide +kernel)) | (apply o_step; (iterate 3 (· simp only [go_sem, *]; try rfl)); (· rfl); simp only [putA]) | (apply o_unw; (iterate 2 (· simp only [go_sem, *]; try rfl)); (· rfl); simp only [putA]) | apply pr_nil | apply pr_same | apply pr_go | apply pl_nil | apply pl_none | (apply pl_skip; (· decide +kernel)) | (apply pl_one; (· simp only [go_sem, *]; try rfl)) | (apply o_call []; (iterate 2 (· simp only [go_sem, *]; try rfl)); (· rfl); (· simp only [go_sem, *]; try rfl); (· rfl); (iterate 2 (· simp only [go_sem, *]; try rfl)); (first | apply hs); simp only [afterOp, putA]) | fail
      (apply f_ret; iterate 7 (· simp only [go_sem, *, Tryz.results90]; try rfl))
      exact h
  · have e0 : (((4 : Nat) : Int) == 0) = false := rfl
    obtain ⟨L, hL⟩ : ∃ L, max lo 65536 = L := ⟨_, rfl⟩
    obtain ⟨M, hM⟩ : ∃ M, min hi 1114111 = M := ⟨_, rfl⟩
    rw [hL, hM] at h
    have m1 : (if (65536 : Int) > (lo : Int) then (65536 : Int) else (lo : Int)) = (L : Int) := by rw [← hL]; split <;> omega
    have m2 : (if (1114111 : Int) < (hi : Int) then (1114111 : Int) else (hi : Int)) = (M : Int) := by rw [← hM]; split <;> omega
    replace hM : M ≤ 1114111 := by omega
    clear hL
    by_cases c1 : L ≤ M
    · have d1 : decide ((L : Int) ≤ (M : Int)) = true := by simp; omega
      by_cases c2 : 55296 ≤ L
      · have d2 : decide ((55296 : Int) ≤ (L : Int)) = true := by simp; omega
        by_cases c3 : M ≤ 57343
        · have d3 : decide ((M : Int) ≤ 57343) = true := by simp; omega
          simp only [decide_eq_true c1, decide_eq_true c2, decide_eq_true c3, Bool.true_and, Bool.false_and, Bool.and_true, Bool.not_true, Bool.not_false, Bool.and_false] at h
          clear hM c1 c2 c3
          refine enter Tryz.func90 rfl (by decide +kernel) (by rw [Tryz.ntmps90]; simp) (by rw [Tryz.ntmps90]; decide) (fun hO => ?_); rw [Tryz.ntmps90]
          repeat' first | apply x_seq | apply x_skip | apply x_block | apply x_exit | apply x_ret | apply x_ops_nil | apply p_blk | apply p_exit_it | apply p_exit_hit | apply p_ret_it | apply p_ret_blk | apply p_panic_it | apply p_panic_blk | apply p_end | (apply p_exit_miss; (· rfl)) | (apply x_region; simp only [List.toList_toArray]) | (apply x_step0; (· rfl); (· simp only [go_sem, *]; try rfl); (· rfl); simp only [putA]) | (apply x_callA []; (· simp only [go_sem, *]; try rfl); (· rfl); (· simp only [go_sem, *]; try rfl); (· rfl); (iterate 2 (· simp only [go_sem, *]; try rfl)); (first | apply hs); simp only [afterCall, putA]) | (apply x_panic; (· simp only [go_sem, *]; try rfl); (· rfl); (· simp only [go_sem, *]; try rfl)) | (apply x_step; (iterate 2 (· simp only [go_sem, *]; try rfl)); (· rfl); simp only [putA]) | (apply x_unwanted; (· simp only [go_sem, *]; try rfl); (· rfl); simp only [putA]) | (apply x_condT; (· simp only [go_sem, *]; try rfl)) | (apply x_condF; (· simp only [go_sem, *]; try rfl)) | (apply x_guardS; (· rfl); (fail_if_success (focus (show _ = some true; (· simp only [go_sem, *]; try rfl)))); (· simp only [go_sem, *]; try rfl); all_goals (intro hb; try simp only [Bool.not_eq_true', Bool.not_eq_false'] at hb)) | (apply x_condS; (· simp only [go_sem, *]; try rfl); all_goals (intro hb; try simp only [Bool.not_eq_true', Bool.not_eq_false'] at hb)) | (apply d_draw; (· exact mixed); (· simp only [List.size_toArray, List.length_cons, List.length_nil, Nat.reduceAdd]; try rfl)) | (apply d_done; (· decide +kernel)) | (apply a_0; (repeat (apply a_s; (· decide +kernel))); first | (apply a_take; (· decide +kernel); (· first | exact qds_FPost | exact qds_RPost | exact qds_YB | assumption); (· rfl); (iterate 3 (· simp only [go_sem, *]; try rfl)); (· rfl); (· simp only [go_sem, *]; try rfl); simp only [putA]) | (apply a_unw; (· decide +kernel); (· first | exact qds_FPost | exact qds_RPost | exact qds_YB | assumption); (· rfl); (iterate 2 (· simp only [go_sem, *]; try rfl)); (· rfl); simp only [putA])) | (apply a_0; (repeat (apply a_o; (· decide +kernel))); apply a_one; (· decide +kernel)) | (apply o_step; (iterate 3 (· simp only [go_sem, *]; try rfl)); (· rfl); simp only [putA]) | (apply o_unw; (iterate 2 (· simp only [go_sem, *]; try rfl)); (· rfl); simp only [putA]) | apply pr_nil | apply pr_same | apply pr_go | apply pl_nil | apply pl_none | (apply pl_skip; (· decide +kernel)) | (apply pl_one; (· simp only [go_sem, *]; try rfl)) | (apply o_call []; (iterate 2 (· simp only [go_sem, *]; try rfl)); (· rfl); (· simp only [go_sem, *]; try rfl); (· rfl); (iterate 2 (· simp only [go_sem, *]; try rfl)); (first | apply hs); simp only [afterOp, putA]) | fail
          (apply f_ret; iterate 7 (· simp only [go_sem, *, Tryz.results90]; try rfl))
          exact h
        · have d3 : decide ((M : Int) ≤ 57343) = false := by simp; omega
          by_cases c4 : p.length = 4
          · have d4 : ((p.length : Int) == ((4 : Nat) : Int)) = true := by rw [beq_iff_eq]; omega
            simp only [decide_eq_true c1, decide_eq_true c2, decide_eq_false c3, decide_eq_true c4, Bool.true_and, Bool.false_and, Bool.and_true, Bool.not_true, Bool.not_false, Bool.and_false] at h
            clear hM c1 c2 c3 c4
            refine enter Tryz.func90 rfl (by decide +kernel) (by rw [Tryz.ntmps90]; simp) (by rw [Tryz.ntmps90]; decide) (fun hO => ?_); rw [Tryz.ntmps90]
            repeat' first | apply x_seq | apply x_skip | apply x_block | apply x_exit | apply x_ret | apply x_ops_nil | apply p_blk | apply p_exit_it | apply p_exit_hit | apply p_ret_it | apply p_ret_blk | apply p_panic_it | apply p_panic_blk | apply p_end | (apply p_exit_miss; (· rfl)) | (apply x_region; simp only [List.toList_toArray]) | (apply x_step0; (· rfl); (· simp only [go_sem, *]; try rfl); (· rfl); simp only [putA]) | (apply x_callA []; (· simp only [go_sem, *]; try rfl); (· rfl); (· simp only [go_sem, *]; try rfl); (· rfl); (iterate 2 (· simp only [go_sem, *]; try rfl)); (first | apply hs); simp only [afterCall, putA]) | (apply x_panic; (· simp only [go_sem, *]; try rfl); (· rfl); (· simp only [go_sem, *]; try rfl)) | (apply x_step; (iterate 2 (· simp only [go_sem, *]; try rfl)); (· rfl); simp only [putA]) | (apply x_unwanted; (· simp only [go_sem, *]; try rfl); (· rfl); simp only [putA]) | (apply x_condT; (· simp only [go_sem, *]; try rfl)) | (apply x_condF; (· simp only [go_sem, *]; try rfl)) | (apply x_guardS; (· rfl); (fail_if_success (focus (show _ = some true; (· simp only [go_sem, *]; try rfl)))); (· simp only [go_sem, *]; try rfl); all_goals (intro hb; try simp only [Bool.not_eq_true', Bool.not_eq_false'] at hb)) | (apply x_condS; (· simp only [go_sem, *]; try rfl); all_goals (intro hb; try simp only [Bool.not_eq_true', Bool.not_eq_false'] at hb)) | (apply d_draw; (· exact mixed); (· simp only [List.size_toArray, List.length_cons, List.length_nil, Nat.reduceAdd]; try rfl)) | (apply d_done; (· decide +kernel)) | (apply a_0; (repeat (apply a_s; (· decide +kernel))); first | (apply a_take; (· decide +kernel); (· first | exact qds_FPost | exact qds_RPost | exact qds_YB | assumption); (· rfl); (iterate 3 (· simp only [go_sem, *]; try rfl)); (· rfl); (· simp only [go_sem, *]; try rfl); simp only [putA]) | (apply a_unw; (· decide +kernel); (· first | exact qds_FPost | exact qds_RPost | exact qds_YB | assumption); (· rfl); (iterate 2 (· simp only [go_sem, *]; try rfl)); (· rfl); simp only [putA])) | (apply a_0; (repeat (apply a_o; (· decide +kernel))); apply a_one; (· decide +kernel)) | (apply o_step; (iterate 3 (· simp only [go_sem, *]; try rfl)); (· rfl); simp only [putA]) | (apply o_unw; (iterate 2 (· simp only [go_sem, *]; try rfl)); (· rfl); simp only [putA]) | apply pr_nil | apply pr_same | apply pr_go | apply pl_nil | apply pl_none | (apply pl_skip; (· decide +kernel)) | (apply pl_one; (· simp only [go_sem, *]; try rfl)) | (apply o_call []; (iterate 2 (· simp only [go_sem, *]; try rfl)); (· rfl); (· simp only [go_sem, *]; try rfl); (· rfl); (iterate 2 (· simp only [go_sem, *]; try rfl)); (first | apply hs); simp only [afterOp, putA]) | fail
            (apply f_ret; iterate 7 (· simp only [go_sem, *, Tryz.results90]; try rfl))
            exact h
          · have d4 : ((p.length : Int) == ((4 : Nat) : Int)) = false := by rw [beq_eq_false_iff_ne]; omega
            simp only [decide_eq_true c1, decide_eq_true c2, decide_eq_false c3, decide_eq_false c4, Bool.true_and, Bool.false_and, Bool.and_true, Bool.not_true, Bool.not_false, Bool.and_false] at h
            clear hM c1 c2 c3 c4
            refine enter Tryz.func90 rfl (by decide +kernel) (by rw [Tryz.ntmps90]; simp) (by rw [Tryz.ntmps90]; decide) (fun hO => ?_); rw [Tryz.ntmps90]
            repeat' first | apply x_seq | apply x_skip | apply x_block | apply x_exit | apply x_ret | apply x_ops_nil | apply p_blk | apply p_exit_it | apply p_exit_hit | apply p_ret_it | apply p_ret_blk | apply p_panic_it | apply p_panic_blk | apply p_end | (apply p_exit_miss; (· rfl)) | (apply x_region; simp only [List.toList_toArray]) | (apply x_step0; (· rfl); (· simp only [go_sem, *]; try rfl); (· rfl); simp only [putA]) | (apply x_callA []; (· simp only [go_sem, *]; try rfl); (· rfl); (· simp only [go_sem, *]; try rfl); (· rfl); (iterate 2 (· simp only [go_sem, *]; try rfl)); (first | apply hs); simp only [afterCall, putA]) | (apply x_panic; (· simp only [go_sem, *]; try rfl); (· rfl); (· simp only [go_sem, *]; try rfl)) | (apply x_step; (iterate 2 (· simp only [go_sem, *]; try rfl)); (· rfl); simp only [putA]) | (apply x_unwanted; (· simp only [go_sem, *]; try rfl); (· rfl); simp only [putA]) | (apply x_condT; (· simp only [go_sem, *]; try rfl)) | (apply x_condF; (· simp only [go_sem, *]; try rfl)) | (apply x_guardS; (· rfl); (fail_if_success (focus (show _ = some true; (· simp only [go_sem, *]; try rfl)))); (· simp only [go_sem, *]; try rfl); all_goals (intro hb; try simp only [Bool.not_eq_true', Bool.not_eq_false'] at hb)) | (apply x_condS; (· simp only [go_sem, *]; try rfl); all_goals (intro hb; try simp only [Bool.not_eq_true', Bool.not_eq_false'] at hb)) | (apply d_draw; (· exact mixed); (· simp only [List.size_toArray, List.length_cons, List.length_nil, Nat.reduceAdd]; try rfl)) | (apply d_done; (· decide +kernel)) | (apply a_0; (repeat (apply a_s; (· decide +kernel))); first | (apply a_take; (· decide +kernel); (· first | exact qds_FPost | exact qds_RPost | exact qds_YB | assumption); (· rfl); (iterate 3 (· simp only [go_sem, *]; try rfl)); (· rfl); (· simp only [go_sem, *]; try rfl); simp only [putA]) | (apply a_unw; (· decide +kernel); (· first | exact qds_FPost | exact qds_RPost | exact qds_YB | assumption); (· rfl); (iterate 2 (· simp only [go_sem, *]; try rfl)); (· rfl); simp only [putA])) | (apply a_0; (repeat (apply a_o; (· decide +kernel))); apply a_one; (· decide +kernel)) | (apply o_step; (iterate 3 (· simp only [go_sem, *]; try rfl)); (· rfl); simp only [putA]) | (apply o_unw; (iterate 2 (· simp only [go_sem, *]; try rfl)); (· rfl); simp only [putA]) | apply pr_nil | apply pr_same | apply pr_go | apply pl_nil | apply pl_none | (apply pl_skip; (· decide +kernel)) | (apply pl_one; (· simp only [go_sem, *]; try rfl)) | (apply o_call []; (iterate 2 (· simp only [go_sem, *]; try rfl)); (· rfl); (· simp only [go_sem, *]; try rfl); (· rfl); (iterate 2 (· simp only [go_sem, *]; try rfl)); (first | apply hs); simp only [afterOp, putA]) | fail
            (apply f_ret; iterate 7 (· simp only [go_sem, *, Tryz.results90]; try rfl))
            exact h
      · have d2 : decide ((55296 : Int) ≤ (L : Int)) = false := by simp; omega
        by_cases c4 : p.length = 4
        · have d4 : ((p.length : Int) == ((4 : Nat) : Int)) = true := by rw [beq_iff_eq]; omega
          simp only [decide_eq_true c1, decide_eq_false c2, decide_eq_true c4, Bool.true_and, Bool.false_and, Bool.and_true, Bool.not_true, Bool.not_false, Bool.and_false] at h
          clear hM c1 c2 c4
          refine enter Tryz.func90 rfl (by decide +kernel) (by rw [Tryz.ntmps90]; simp) (by rw [Tryz.ntmps90]; decide) (fun hO => ?_); rw [Tryz.ntmps90]
          repeat' first | apply x_seq | apply x_skip | apply x_block | apply x_exit | apply x_ret | apply x_ops_nil | apply p_blk | apply p_exit_it | apply p_exit_hit | apply p_ret_it | apply p_ret_blk | apply p_panic_it | apply p_panic_blk | apply p_end | (apply p_exit_miss; (· rfl)) | (apply x_region; simp only [List.toList_toArray]) | (apply x_step0; (· rfl); (· simp only [go_sem, *]; try rfl); (· rfl); simp only [putA]) | (apply x_callA []; (· simp only [go_sem, *]; try rfl); (· rfl); (· simp only [go_sem, *]; try rfl); (· rfl); (iterate 2 (· simp only [go_sem, *]; try rfl)); (first | apply hs); simp only [afterCall, putA]) | (apply x_panic; (· simp only [go_sem, *]; try rfl); (· rfl); (· simp only [go_sem, *]; try rfl)) | (apply x_step; (iterate 2 (· simp only [go_sem, *]; try rfl)); (· rfl); simp only [putA]) | (apply x_unwanted; (· simp only [go_sem, *]; try rfl); (· rfl); simp only [putA]) | (apply x_condT; (· simp only [go_sem, *]; try rfl)) | (apply x_condF; (· simp only [go_sem, *]; try rfl)) | (apply x_guardS; (· rfl); (fail_if_success (focus (show _ = some true; (· simp only [go_sem, *]; try rfl)))); (· simp only [go_sem, *]; try rfl); all_goals (intro hb; try simp only [Bool.not_eq_true', Bool.not_eq_false'] at hb)) | (apply x_condS; (· simp only [go_sem, *]; try rfl); all_goals (intro hb; try simp only [Bool.not_eq_true', Bool.not_eq_false'] at hb)) | (apply d_draw; (· exact mixed); (· simp only [List.size_toArray, List.length_cons, List.length_nil, Nat.reduceAdd]; try rfl)) | (apply d_done; (· decide +kernel)) | (apply a_0; (repeat (apply a_s; (· decide +kernel))); first | (apply a_take; (· decide +kernel); (· first | exact qds_FPost | exact qds_RPost | exact qds_YB | assumption); (· rfl); (iterate 3 (· simp only [go_sem, *]; try rfl)); (· rfl); (· simp only [go_sem, *]; try rfl); simp only [putA]) | (apply a_unw; (· decide +kernel); (· first | exact qds_FPost | exact qds_RPost | exact qds_YB | assumption); (· rfl); (iterate 2 (· simp only [go_sem, *]; try rfl)); (· rfl); simp only [putA])) | (apply a_0; (repeat (apply a_o; (· decide +kernel))); apply a_one; (· decide +kernel)) | (apply o_step; (iterate 3 (· simp only [go_sem, *]; try rfl)); (· rfl); simp only [putA]) | (apply o_unw; (iterate 2 (· simp only [go_sem, *]; try rfl)); (· rfl); simp only [putA]) | apply pr_nil | apply pr_same | apply pr_go | apply pl_nil | apply pl_none | (apply pl_skip; (· decide +kernel)) | (apply pl_one; (· simp only [go_sem, *]; try rfl)) | (apply o_call []; (iterate 2 (· simp only [go_sem, *]; try rfl)); (· rfl); (· simp only [go_sem, *]; try rfl); (· rfl); (iterate 2 (· simp only [go_sem, *]; try rfl)); (first | apply hs); simp only [afterOp, putA]) | fail
          (apply f_ret; iterate 7 (· simp only [go_sem, *, Tryz.results90]; try rfl))
          exact h
        · have d4 : ((p.length : Int) == ((4 : Nat) : Int)) = false := by rw [beq_eq_false_iff_ne]; omega
          simp only [decide_eq_true c1, decide_eq_false c2, decide_eq_false c4, Bool.true_and, Bool.false_and, Bool.and_true, Bool.not_true, Bool.not_false, Bool.and_false] at h
          clear hM c1 c2 c4
          refine enter Tryz.func90 rfl (by decide +kernel) (by rw [Tryz.ntmps90]; simp) (by rw [Tryz.ntmps90]; decide) (fun hO => ?_); rw [Tryz.ntmps90]
          repeat' first | apply x_seq | apply x_skip | apply x_block | apply x_exit | apply x_ret | apply x_ops_nil | apply p_blk | apply p_exit_it | apply p_exit_hit | apply p_ret_it | apply p_ret_blk | apply p_panic_it | apply p_panic_blk | apply p_end | (apply p_exit_miss; (· rfl)) | (apply x_region; simp only [List.toList_toArray]) | (apply x_step0; (· rfl); (· simp only [go_sem, *]; try rfl); (· rfl); simp only [putA]) | (apply x_callA []; (· simp only [go_sem, *]; try rfl); (· rfl); (· simp only [go_sem, *]; try rfl); (· rfl); (iterate 2 (· simp only [go_sem, *]; try rfl)); (first | apply hs); simp only [afterCall, putA]) | (apply x_panic; (· simp only [go_sem, *]; try rfl); (· rfl); (· simp only [go_sem, *]; try rfl)) | (apply x_step; (iterate 2 (· simp only [go_sem, *]; try rfl)); (· rfl); simp only [putA]) | (apply x_unwanted; (· simp only [go_sem, *]; try rfl); (· rfl); simp only [putA]) | (apply x_condT; (· simp only [go_sem, *]; try rfl)) | (apply x_condF; (· simp only [go_sem, *]; try rfl)) | (apply x_guardS; (· rfl); (fail_if_success (focus (show _ = some true; (· simp only [go_sem, *]; try rfl)))); (· simp only [go_sem, *]; try rfl); all_goals (intro hb; try simp only [Bool.not_eq_true', Bool.not_eq_false'] at hb)) | (apply x_condS; (· simp only [go_sem, *]; try rfl); all_goals (intro hb; try simp only [Bool.not_eq_true', Bool.not_eq_false'] at hb)) | (apply d_draw; (· exact mixed); (· simp only [List.size_toArray, List.length_cons, List.length_nil, Nat.reduceAdd]; try rfl)) | (apply d_done; (· decide +kernel)) | (apply a_0; (repeat (apply a_s; (· decide +kernel))); first | (apply a_take; (· decide +kernel); (· first | exact qds_FPost | exact qds_RPost | exact qds_YB | assumption); (· rfl); (iterate 3 (· simp only [go_sem, *]; try rfl)); (· rfl); (· simp only [go_sem, *]; try rfl); simp only [putA]) | (apply a_unw; (· decide +kernel); (· first | exact qds_FPost | exact qds_RPost | exact qds_YB | assumption); (· rfl); (iterate 2 (· simp only [go_sem, *]; try rfl)); (· rfl); simp only [putA])) | (apply a_0; (repeat (apply a_o; (· decide +kernel))); apply a_one; (· decide +kernel)) | (apply o_step; (iterate 3 (· simp only [go_sem, *]; try rfl)); (· rfl); simp only [putA]) | (apply o_unw; (iterate 2 (· simp only [go_sem, *]; try rfl)); (· rfl); simp only [putA]) | apply pr_nil | apply pr_same | apply pr_go | apply pl_nil | apply pl_none | (apply pl_skip; (· decide +kernel)) | (apply pl_one; (· simp only [go_sem, *]; try rfl)) | (apply o_call []; (iterate 2 (· simp only [go_sem, *]; try rfl)); (· rfl); (· simp only [go_sem, *]; try rfl); (· rfl); (iterate 2 (· simp only [go_sem, *]; try rfl)); (first | apply hs); simp only [afterOp, putA]) | fail
          (apply f_ret; iterate 7 (· simp only [go_sem, *, Tryz.results90]; try rfl))
          exact h
    · have d1 : decide ((L : Int) ≤ (M : Int)) = false := by simp; omega
      simp only [decide_eq_false c1, Bool.true_and, Bool.false_and, Bool.and_true, Bool.not_true, Bool.not_false, Bool.and_false] at h
      clear hM c1
      refine enter Tryz.func90 rfl (by decide +kernel) (by rw [Tryz.ntmps90]; simp) (by rw [Tryz.ntmps90]; decide) (fun hO => ?_); rw [Tryz.ntmps90]
      repeat' first | apply x_seq | apply x_skip | apply x_block | apply x_exit | apply x_ret | apply x_ops_nil | apply p_blk | apply p_exit_it | apply p_exit_hit | apply p_ret_it | apply p_ret_blk | apply p_panic_it | apply p_panic_blk | apply p_end | (apply p_exit_miss; (· rfl)) | (apply x_region; simp only [List.toList_toArray]) | (apply x_step0; (· rfl); (· simp only [go_sem, *]; try rfl); (· rfl); simp only [putA]) | (apply x_callA []; (· simp only [go_sem, *]; try rfl); (· rfl); (· simp only [go_sem, *]; try rfl); (· rfl); (iterate 2 (· simp only [go_sem, *]; try rfl)); (first | apply hs); simp only [afterCall, putA]) | (apply x_panic; (· simp only [go_sem, *]; try rfl); (· rfl); (· simp only [go_sem, *]; try rfl)) | (apply x_step; (iterate 2 (· simp only [go_sem, *]; try rfl)); (· rfl); simp only [putA]) | (apply x_unwanted; (· simp only [go_sem, *]; try rfl); (· rfl); simp only [putA]) | (apply x_condT; (· simp only [go_sem, *]; try rfl)) | (apply x_condF; (· simp only [go_sem, *]; try rfl)) | (apply x_guardS; (· rfl); (fail_if_success (focus (show _ = some true; (· simp only [go_sem, *]; try rfl)))); (· simp only [go_sem, *]; try rfl); all_goals (intro hb; try simp only [Bool.not_eq_true', Bool.not_eq_false'] at hb)) | (apply x_condS; (· simp only [go_sem, *]; try rfl); all_goals (intro hb; try simp only [Bool.not_eq_true', Bool.not_eq_false'] at hb)) | (apply d_draw; (· exact mixed); (· simp only [List.size_toArray, List.length_cons, List.length_nil, Nat.reduceAdd]; try rfl)) | (apply d_done; (· decide +kernel)) | (apply a_0; (repeat (apply a_s; (· decide +kernel))); first | (apply a_take; (· decide +kernel); (· first | exact qds_FPost | exact qds_RPost | exact qds_YB | assumption); (· rfl); (iterate 3 (· simp only [go_sem, *]; try rfl)); (· rfl); (· simp only [go_sem, *]; try rfl); simp only [putA]) | (apply a_unw; (· decide +kernel); (· first | exact qds_FPost | exact qds_RPost | exact qds_YB | assumption); (· rfl); (iterate 2 (· simp only [go_sem, *]; try rfl)); (· rfl); simp only [putA])) | (apply a_0; (repeat (apply a_o; (· decide +kernel))); apply a_one; (· decide +kernel)) | (apply o_step; (iterate 3 (· simp only [go_sem, *]; try rfl)); (· rfl); simp only [putA]) | (apply o_unw; (iterate 2 (· simp only [go_sem, *]; try rfl)); (· rfl); simp only [putA]) | apply pr_nil | apply pr_same | apply pr_go | apply pl_nil | apply pl_none | (apply pl_skip; (· decide +kernel)) | (apply pl_one; (· simp only [go_sem, *]; try rfl)) | (apply o_call []; (iterate 2 (· simp only [go_sem, *]; try rfl)); (· rfl); (· simp only [go_sem, *]; try rfl); (· rfl); (iterate 2 (· simp only [go_sem, *]; try rfl)); (first | apply hs); simp only [afterOp, putA]) | fail
      (apply f_ret; iterate 7 (· simp only [go_sem, *, Tryz.results90]; try rfl))
      exact h
end Go.Proofs.YtcobfilbmfokoaaGreatDoor
namespace Go.Proofs.YtcobfilbmfokoaaGreatDoor
open Go Go.Fen
set_option linter.unusedSimpArgs false
set_option linter.unusedVariables false
attribute [local irreducible] RunX WP ACall AnyP OpA ProtL
set_option maxRecDepth 8000
theorem kind_012 (p : List Nat) : kindU p = 0 ∨ kindU p = 1 ∨ kindU p = 2 := by
  cases p with
  | nil => exact .inl rfl
  | cons a r =>
    simp only [kindU]
    repeat' split
    all_goals simp
set_option maxHeartbeats 1000000 in
theorem rRight (w0 : World) (S : List Blk) (p : List Nat) (hp : ∀ x ∈ p, x < 256) (h4 : p.length ≤ 4) (R : AOut → List Blk → Prop) (h : R (.ret (.bool (rightU p))) S) : ACall Tryz.prog w0 89 [.sval false (p.map By)] S R := by
  have hg := fun S' => rGoes w0 S' p hp h4
  rw [goes_kind] at hg
  by_cases he : p = []
  · subst he
    have h : R (.ret (.bool true)) S := h
    have hg : ∀ S' (R : AOut → List Blk → Prop), R (.ret (.tup [.bool false, .bool false])) S' → ACall Tryz.prog w0 90 [.sval false (List.map By [])] S' R := hg
    have e0 : (((0 : Nat) : Int) == 0) = true := rfl
    simp only [List.map_nil] at hg ⊢
    clear hp h4
    refine enter Tryz.func89 rfl (by decide +kernel) (by rw [Tryz.ntmps89]; simp) (by rw [Tryz.ntmps89]; decide) (fun hO => ?_); rw [Tryz.ntmps89]
    repeat' first | apply x_seq | apply x_skip | apply x_block | apply x_exit | apply x_ret | apply x_ops_nil | apply p_blk | apply p_exit_it | apply p_exit_hit | apply p_ret_it | apply p_ret_blk | apply p_panic_it | apply p_panic_blk | apply p_end | (apply p_exit_miss; (· rfl)) | (apply x_region; simp only [List.toList_toArray]) | (apply x_step0; (· rfl); (· simp only [go_sem, *]; try rfl); (· rfl); simp only [putA]) | (apply x_callA []; (· simp only [go_sem, *]; try rfl); (· rfl); (· simp only [go_sem, *]; try rfl); (· rfl); (iterate 2 (· simp only [go_sem, *]; try rfl)); (first | apply hg); simp only [afterCall, putA]) | (apply x_panic; (· simp only [go_sem, *]; try rfl); (· rfl); (· simp only [go_sem, *]; try rfl)) | (apply x_step; (iterate 2 (· simp only [go_sem, *]; try rfl)); (· rfl); simp only [putA]) | (apply x_unwanted; (· simp only [go_sem, *]; try rfl); (· rfl); simp only [putA]) | (apply x_condT; (· simp only [go_sem, *]; try rfl)) | (apply x_condF; (· simp only [go_sem, *]; try rfl)) | (apply x_guardS; (· rfl); (fail_if_success (focus (show _ = some true; (· simp only [go_sem, *]; try rfl)))); (· simp only [go_sem, *]; try rfl); all_goals (intro hb; try simp only [Bool.not_eq_true', Bool.not_eq_false'] at hb)) | (apply x_condS; (· simp only [go_sem, *]; try rfl); all_goals (intro hb; try simp only [Bool.not_eq_true', Bool.not_eq_false'] at hb)) | fail
    (apply f_ret; iterate 7 (· simp only [go_sem, *, Tryz.results89]; try rfl))
    exact h
  · have hl : ((p.length : Int) == 0) = false := by
      rw [beq_eq_false_iff_ne]
      intro e
      exact he (List.length_eq_zero_iff.1 (by omega))
    have hr : rightU p = decide (kindU p = 1) := by unfold rightU; rw [decide_eq_false he, Bool.false_or]
    rw [hr] at h
    have hk := kind_012 p
    generalize kindU p = kd at hg h hk
    clear he hp h4 hr
    rcases hk with rfl | rfl | rfl
    · have h : R (.ret (.bool false)) S := h
      have hg : ∀ S' (R : AOut → List Blk → Prop), R (.ret (.tup [.bool false, .bool false])) S' → ACall Tryz.prog w0 90 [.sval false (List.map By p)] S' R := hg
      refine enter Tryz.func89 rfl (by decide +kernel) (by rw [Tryz.ntmps89]; simp) (by rw [Tryz.ntmps89]; decide) (fun hO => ?_); rw [Tryz.ntmps89]
      repeat' first | apply x_seq | apply x_skip | apply x_block | apply x_exit | apply x_ret | apply x_ops_nil | apply p_blk | apply p_exit_it | apply p_exit_hit | apply p_ret_it | apply p_ret_blk | apply p_panic_it | apply p_panic_blk | apply p_end | (apply p_exit_miss; (· rfl)) | (apply x_region; simp only [List.toList_toArray]) | (apply x_step0; (· rfl); (· simp only [go_sem, *]; try rfl); (· rfl); simp only [putA]) | (apply x_callA []; (· simp only [go_sem, *]; try rfl); (· rfl); (· simp only [go_sem, *]; try rfl); (· rfl); (iterate 2 (· simp only [go_sem, *]; try rfl)); (first | apply hg); simp only [afterCall, putA]) | (apply x_panic; (· simp only [go_sem, *]; try rfl); (· rfl); (· simp only [go_sem, *]; try rfl)) | (apply x_step; (iterate 2 (· simp only [go_sem, *]; try rfl)); (· rfl); simp only [putA]) | (apply x_unwanted; (· simp only [go_sem, *]; try rfl); (· rfl); simp only [putA]) | (apply x_condT; (· simp only [go_sem, *]; try rfl)) | (apply x_condF; (· simp only [go_sem, *]; try rfl)) | (apply x_guardS; (· rfl); (fail_if_success (focus (show _ = some true; (· simp only [go_sem, *]; try rfl)))); (· simp only [go_sem, *]; try rfl); all_goals (intro hb; try simp only [Bool.not_eq_true', Bool.not_eq_false'] at hb)) | (apply x_condS; (· simp only [go_sem, *]; try rfl); all_goals (intro hb; try simp only [Bool.not_eq_true', Bool.not_eq_false'] at hb)) | fail
      (apply f_ret; iterate 7 (· simp only [go_sem, *, Tryz.results89]; try rfl))
      exact h
    · have h : R (.ret (.bool true)) S := h
      have hg : ∀ S' (R : AOut → List Blk → Prop), R (.ret (.tup [.bool true, .bool false])) S' → ACall Tryz.prog w0 90 [.sval false (List.map By p)] S' R := hg
      refine enter Tryz.func89 rfl (by decide +kernel) (by rw [Tryz.ntmps89]; simp) (by rw [Tryz.ntmps89]; decide) (fun hO => ?_); rw [Tryz.ntmps89]
      repeat' first | apply x_seq | apply x_skip | apply x_block | apply x_exit | apply x_ret | apply x_ops_nil | apply p_blk | apply p_exit_it | apply p_exit_hit | apply p_ret_it | apply p_ret_blk | apply p_panic_it | apply p_panic_blk | apply p_end | (apply p_exit_miss; (· rfl)) | (apply x_region; simp only [List.toList_toArray]) | (apply x_step0; (· rfl); (· simp only [go_sem, *]; try rfl); (· rfl); simp only [putA]) | (apply x_callA []; (· simp only [go_sem, *]; try rfl); (· rfl); (· simp only [go_sem, *]; try rfl); (· rfl); (iterate 2 (· simp only [go_sem, *]; try rfl)); (first | apply hg); simp only [afterCall, putA]) | (apply x_panic; (· simp only [go_sem, *]; try rfl); (· rfl); (· simp only [go_sem, *]; try rfl)) | (apply x_step; (iterate 2 (· simp only [go_sem, *]; try rfl)); (· rfl); simp only [putA]) | (apply x_unwanted; (· simp only [go_sem, *]; try rfl); (· rfl); simp only [putA]) | (apply x_condT; (· simp only [go_sem, *]; try rfl)) | (apply x_condF; (· simp only [go_sem, *]; try rfl)) | (apply x_guardS; (· rfl); (fail_if_success (focus (show _ = some true; (· simp only [go_sem, *]; try rfl)))); (· simp only [go_sem, *]; try rfl); all_goals (intro hb; try simp only [Bool.not_eq_true', Bool.not_eq_false'] at hb)) | (apply x_condS; (· simp only [go_sem, *]; try rfl); all_goals (intro hb; try simp only [Bool.not_eq_true', Bool.not_eq_false'] at hb)) | fail
      (apply f_ret; iterate 7 (· simp only [go_sem, *, Tryz.results89]; try rfl))
      exact h
    · have h : R (.ret (.bool false)) S := h
      have hg : ∀ S' (R : AOut → List Blk → Prop), R (.ret (.tup [.bool true, .bool true])) S' → ACall Tryz.prog w0 90 [.sval false (List.map By p)] S' R := hg
      refine enter Tryz.func89 rfl (by decide +kernel) (by rw [Tryz.ntmps89]; simp) (by rw [Tryz.ntmps89]; decide) (fun hO => ?_); rw [Tryz.ntmps89]
      repeat' first | apply x_seq | apply x_skip | apply x_block | apply x_exit | apply x_ret | apply x_ops_nil | apply p_blk | apply p_exit_it | apply p_exit_hit | apply p_ret_it | apply p_ret_blk | apply p_panic_it | apply p_panic_blk | apply p_end | (apply p_exit_miss; (· rfl)) | (apply x_region; simp only [List.toList_toArray]) | (apply x_step0; (· rfl); (· simp only [go_sem, *]; try rfl); (· rfl); simp only [putA]) | (apply x_callA []; (· simp only [go_sem, *]; try rfl); (· rfl); (· simp only [go_sem, *]; try rfl); (· rfl); (iterate 2 (· simp only [go_sem, *]; try rfl)); (first | apply hg); simp only [afterCall, putA]) | (apply x_panic; (· simp only [go_sem, *]; try rfl); (· rfl); (· simp only [go_sem, *]; try rfl)) | (apply x_step; (iterate 2 (· simp only [go_sem, *]; try rfl)); (· rfl); simp only [putA]) | (apply x_unwanted; (· simp only [go_sem, *]; try rfl); (· rfl); simp only [putA]) | (apply x_condT; (· simp only [go_sem, *]; try rfl)) | (apply x_condF; (· simp only [go_sem, *]; try rfl)) | (apply x_guardS; (· rfl); (fail_if_success (focus (show _ = some true; (· simp only [go_sem, *]; try rfl)))); (· simp only [go_sem, *]; try rfl); all_goals (intro hb; try simp only [Bool.not_eq_true', Bool.not_eq_false'] at hb)) | (apply x_condS; (· simp only [go_sem, *]; try rfl); all_goals (intro hb; try simp only [Bool.not_eq_true', Bool.not_eq_false'] at hb)) | fail
      (apply f_ret; iterate 7 (· simp only [go_sem, *, Tryz.results89]; try rfl))
      exact h
set_option maxHeartbeats 1000000 in
theorem rFlush (w0 : World) (S : List Blk) (p : List Nat) (hb : ∀ x ∈ p, x < 256) (hr : rightU p = true) (R : AOut → List Blk → Prop) (h : R (.ret (.sval false ((flushU p).map Co))) S) : ACall Tryz.prog w0 75 [.sval false (p.map By)] S R := by
  have hri := fun S' => rRight w0 S' p hb (Nat.le_succ_of_le (right_len hr))
  rw [hr] at hri
  by_cases hp : p = []
  · subst hp
    have h : R (.ret (.sval false [])) S := h
    have e0 : decide ((0 : Int) < ((0 : Nat) : Int)) = false := rfl
    simp only [List.map_nil]
    clear hr hri hb
    refine enter Tryz.func75 rfl (by decide +kernel) (by rw [Tryz.ntmps75]; simp) (by rw [Tryz.ntmps75]; decide) (fun hO => ?_); rw [Tryz.ntmps75]
    repeat' first | apply x_seq | apply x_skip | apply x_block | apply x_exit | apply x_ret | apply x_ops_nil | apply p_blk | apply p_exit_it | apply p_exit_hit | apply p_ret_it | apply p_ret_blk | apply p_panic_it | apply p_panic_blk | apply p_end | (apply p_exit_miss; (· rfl)) | (apply x_region; simp only [List.toList_toArray]) | (apply x_step0; (· rfl); (· simp only [go_sem, *]; try rfl); (· rfl); simp only [putA]) | (apply x_panic; (· simp only [go_sem, *]; try rfl); (· rfl); (· simp only [go_sem, *]; try rfl)) | (apply x_step; (iterate 2 (· simp only [go_sem, *]; try rfl)); (· rfl); simp only [putA]) | (apply x_unwanted; (· simp only [go_sem, *]; try rfl); (· rfl); simp only [putA]) | (apply x_condT; (· simp only [go_sem, *]; try rfl)) | (apply x_condF; (· simp only [go_sem, *]; try rfl)) | (apply x_guardS; (· rfl); (fail_if_success (focus (show _ = some true; (· simp only [go_sem, *]; try rfl)))); (· simp only [go_sem, *]; try rfl); all_goals (intro hb; try simp only [Bool.not_eq_true', Bool.not_eq_false'] at hb)) | (apply x_condS; (· simp only [go_sem, *]; try rfl); all_goals (intro hb; try simp only [Bool.not_eq_true', Bool.not_eq_false'] at hb)) | fail
    (apply f_ret; iterate 7 (· simp only [go_sem, *, Tryz.results75]; try rfl))
    exact h
  · have hl : decide ((0 : Int) < (p.length : Int)) = true := by
      cases p with
      | nil => exact absurd rfl hp
      | cons a r => simp only [List.length_cons, decide_eq_true_eq]; omega
    rw [flushU, if_neg hp] at h
    have h : R (.ret (.sval false [AV.int .i64 65533])) S := h
    clear hr hp hb
    refine enter Tryz.func75 rfl (by decide +kernel) (by rw [Tryz.ntmps75]; simp) (by rw [Tryz.ntmps75]; decide) (fun hO => ?_); rw [Tryz.ntmps75]
    repeat' first | apply x_seq | apply x_skip | apply x_block | apply x_exit | apply x_ret | apply x_ops_nil | apply p_blk | apply p_exit_it | apply p_exit_hit | apply p_ret_it | apply p_ret_blk | apply p_panic_it | apply p_panic_blk | apply p_end | (apply p_exit_miss; (· rfl)) | (apply x_region; simp only [List.toList_toArray]) | (apply x_step0; (· rfl); (· simp only [go_sem, *]; try rfl); (· rfl); simp only [putA]) | (apply x_callA []; (· simp only [go_sem, *]; try rfl); (· rfl); (· simp only [go_sem, *]; try rfl); (· rfl); (iterate 2 (· simp only [go_sem, *]; try rfl)); (first | apply hri); simp only [afterCall, putA]) | (apply x_panic; (· simp only [go_sem, *]; try rfl); (· rfl); (· simp only [go_sem, *]; try rfl)) | (apply x_step; (iterate 2 (· simp only [go_sem, *]; try rfl)); (· rfl); simp only [putA]) | (apply x_unwanted; (· simp only [go_sem, *]; try rfl); (· rfl); simp only [putA]) | (apply x_condT; (· simp only [go_sem, *]; try rfl)) | (apply x_condF; (· simp only [go_sem, *]; try rfl)) | (apply x_guardS; (· rfl); (fail_if_success (focus (show _ = some true; (· simp only [go_sem, *]; try rfl)))); (· simp only [go_sem, *]; try rfl); all_goals (intro hb; try simp only [Bool.not_eq_true', Bool.not_eq_false'] at hb)) | (apply x_condS; (· simp only [go_sem, *]; try rfl); all_goals (intro hb; try simp only [Bool.not_eq_true', Bool.not_eq_false'] at hb)) | fail
    (apply f_ret; iterate 7 (· simp only [go_sem, *, Tryz.results75]; try rfl))
    exact h
end Go.Proofs.YtcobfilbmfokoaaGreatDoor
namespace Go.Proofs.YtcobfilbmfokoaaGreatDoor
open Go Go.Fen
set_option linter.unusedSimpArgs false
set_option linter.unusedVariables false
attribute [local irreducible] RunX WP ACall AnyP OpA ProtL
set_option maxRecDepth 8000
set_option maxHeartbeats 4000000 in
theorem rStepG (w0 : World) (S : List Blk) (p : List Nat) (b : Nat) (hb : b < 256) (hr : rightU p = true) (hp : ∀ x ∈ p, x < 256)
    (hrec : p ≠ [] → ∀ (S' : List Blk) (R : AOut → List Blk → Prop), R (.ret (stepV (step1 b))) S' → ACall Tryz.prog w0 74 [.sval false [], .int .u8 b] S' R)
    (R : AOut → List Blk → Prop) (h : R (.ret (stepV (stepU p b))) S) : ACall Tryz.prog w0 74 [.sval false (p.map By), .int .u8 b] S R := by
  have hl3 := right_len hr
  have hpb : ∀ x ∈ p ++ [b], x < 256 := by
    intro x hx
    rcases List.mem_append.1 hx with hx | hx
    · exact hp x hx
    · rw [List.mem_singleton.1 hx]; exact hb
  have hri := fun S' => rRight w0 S' p hp (Nat.le_succ_of_le hl3)
  rw [hr] at hri
  have hk := fun S' => rGoes w0 S' (p ++ [b]) hpb (by simp; omega)
  rw [goes_kind] at hk
  have hb0 : p.length * 1 ≤ 140737488355328 := by omega
  have hb00 : (0 + p.length) * 1 ≤ 140737488355328 := by omega
  have hb1 : (p.length + 1) * 1 ≤ 140737488355328 := by omega
  have happ : List.map By p ++ [AV.int .u8 b] = List.map By (p ++ [b]) := by rw [List.map_append]; rfl
  have hlen : (p ++ [b]).length = p.length + 1 := by simp
  have htk : List.take p.length (List.map By p) = List.map By p := List.take_of_length_le (by simp)
  have hc := fun S' => rSpan w0 S' (p ++ [b]) hpb (by simp; omega)
  have hsc := span_code (p := p ++ [b])
  have hall := By.all1 p
  simp only [AV.cells] at hall
  have okA := By.ok p
  simp only [okEls, AV.cells] at okA
  have hle : (p.length : Int) ≤ (p.length : Int) := Int.le_refl _
  have hbe : (p.length == p.length) = true := by simp
  unfold stepU at h
  have Happ := Lib.hid happ
  have Hc := Lib.hid hc
  have Hsc := Lib.hid hsc
  have Hrec := Lib.hid hrec
  have H := Lib.hid h
  clear hp hb happ hc hrec h hl3 hr hpb hsc
  refine enter Tryz.func74 rfl (by decide +kernel) (by rw [Tryz.ntmps74]; simp) (by rw [Tryz.ntmps74]; decide) (fun hO => ?_); rw [Tryz.ntmps74]
  repeat' first | apply x_seq | apply x_skip | apply x_block | apply x_exit | apply x_ret | apply x_ops_nil | apply p_blk | apply p_exit_it | apply p_exit_hit | apply p_ret_it | apply p_ret_blk | apply p_panic_it | apply p_panic_blk | apply p_end | (apply p_exit_miss; (· rfl)) | (apply x_region; simp only [List.toList_toArray]) | (apply x_step0; (· rfl); (· simp only [go_sem, *]; try rfl); (· rfl); simp only [putA]) | (apply x_callA []; (· simp only [go_sem, *]; try rfl); (· rfl); (· simp only [go_sem, *]; try rfl); (· rfl); (iterate 2 (· simp only [go_sem, *]; try rfl)); (first | apply hri); simp only [afterCall, putA]) | (apply x_panic; (· simp only [go_sem, *]; try rfl); (· rfl); (· simp only [go_sem, *]; try rfl)) | (apply x_step; (iterate 2 (· simp only [go_sem, *]; try rfl)); (· rfl); simp only [putA]) | (apply x_unwanted; (· simp only [go_sem, *]; try rfl); (· rfl); simp only [putA]) | (apply x_condT; (· simp only [go_sem, *]; try rfl)) | (apply x_condF; (· simp only [go_sem, *]; try rfl)) | (apply x_guardS; (· rfl); (fail_if_success (focus (show _ = some true; (· simp only [go_sem, *]; try rfl)))); (· simp only [go_sem, *]; try rfl); all_goals (intro hb; try simp only [Bool.not_eq_true', Bool.not_eq_false'] at hb)) | (apply x_condS; (· simp only [go_sem, *]; try rfl); all_goals (intro hb; try simp only [Bool.not_eq_true', Bool.not_eq_false'] at hb)) | fail
  rw [Happ.out]
  refine x_mark S.length (by (simp only [go_sem, *]; try rfl)) ?_
  try simp only [go_sem, *]
  have h012 := kind_012 (p ++ [b])
  obtain ⟨kd, hkd⟩ : ∃ kd, kindU (p ++ [b]) = kd := ⟨_, rfl⟩
  rw [hkd] at hk h012
  rcases h012 with rfl | rfl | rfl
  · have hh := H.out
    rw [hkd, if_neg (by decide), if_neg (by decide)] at hh
    have hk : ∀ S' (R : AOut → List Blk → Prop), R (.ret (.tup [.bool false, .bool false])) S' → ACall Tryz.prog w0 90 [.sval false (List.map By (p ++ [b]))] S' R := hk
    clear hkd
    by_cases hp : p = []
    · subst hp
      rw [if_pos rfl] at hh
      have e0 : (((0 : Nat) : Int) == 0) = true := rfl
      unfold stepV at hh
      simp only [List.map_cons, List.map_nil, Co] at hh
      repeat' first | apply x_seq | apply x_skip | apply x_block | apply x_exit | apply x_ret | apply x_ops_nil | apply p_blk | apply p_exit_it | apply p_exit_hit | apply p_ret_it | apply p_ret_blk | apply p_panic_it | apply p_panic_blk | apply p_end | (apply p_exit_miss; (· rfl)) | (apply x_region; simp only [List.toList_toArray]) | (apply x_step0; (· rfl); (· simp only [go_sem, *]; try rfl); (· rfl); simp only [putA]) | (apply x_callA []; (· simp only [go_sem, *]; try rfl); (· rfl); (· simp only [go_sem, *]; try rfl); (· rfl); (iterate 2 (· simp only [go_sem, *]; try rfl)); (first | apply hk); simp only [afterCall, putA]) | (apply x_panic; (· simp only [go_sem, *]; try rfl); (· rfl); (· simp only [go_sem, *]; try rfl)) | (apply x_step; (iterate 2 (· simp only [go_sem, *]; try rfl)); (· rfl); simp only [putA]) | (apply x_unwanted; (· simp only [go_sem, *]; try rfl); (· rfl); simp only [putA]) | (apply x_condT; (· simp only [go_sem, *]; try rfl)) | (apply x_condF; (· simp only [go_sem, *]; try rfl)) | (apply x_guardS; (· rfl); (fail_if_success (focus (show _ = some true; (· simp only [go_sem, *]; try rfl)))); (· simp only [go_sem, *]; try rfl); all_goals (intro hb; try simp only [Bool.not_eq_true', Bool.not_eq_false'] at hb)) | (apply x_condS; (· simp only [go_sem, *]; try rfl); all_goals (intro hb; try simp only [Bool.not_eq_true', Bool.not_eq_false'] at hb)) | fail
      (apply f_ret; iterate 7 (· simp only [go_sem, *, Tryz.results74]; try rfl))
      exact hh
    · rw [if_neg hp] at hh
      have hrec := Hrec.out hp
      have hl0 : ((p.length : Int) == 0) = false := by
        rw [beq_eq_false_iff_ne]
        intro e
        exact hp (List.length_eq_zero_iff.1 (by omega))
      have hq1 : (step1 b).2.length ≤ 1 := by unfold step1; split <;> (try split) <;> simp
      generalize step1 b = q at hrec hh hq1
      obtain ⟨q1, q2⟩ := q
      unfold stepV at hh hrec
      simp only [List.map_cons, Co] at hh hrec hq1
      have okC := Co.ok q2
      simp only [okEls, AV.cells] at okC
      have hb8 : (1 + q2.length) * 8 ≤ 140737488355328 := by omega
      clear hp hq1
      repeat' first | apply x_seq | apply x_skip | apply x_block | apply x_exit | apply x_ret | apply x_ops_nil | apply p_blk | apply p_exit_it | apply p_exit_hit | apply p_ret_it | apply p_ret_blk | apply p_panic_it | apply p_panic_blk | apply p_end | (apply p_exit_miss; (· rfl)) | (apply x_region; simp only [List.toList_toArray]) | (apply x_step0; (· rfl); (· simp only [go_sem, *]; try rfl); (· rfl); simp only [putA]) | (apply x_callA []; (· simp only [go_sem, *]; try rfl); (· rfl); (· simp only [go_sem, *]; try rfl); (· rfl); (iterate 2 (· simp only [go_sem, *]; try rfl)); (first | apply hk | apply hrec); simp only [afterCall, putA]) | (apply x_panic; (· simp only [go_sem, *]; try rfl); (· rfl); (· simp only [go_sem, *]; try rfl)) | (apply x_step; (iterate 2 (· simp only [go_sem, *]; try rfl)); (· rfl); simp only [putA]) | (apply x_unwanted; (· simp only [go_sem, *]; try rfl); (· rfl); simp only [putA]) | (apply x_condT; (· simp only [go_sem, *]; try rfl)) | (apply x_condF; (· simp only [go_sem, *]; try rfl)) | (apply x_guardS; (· rfl); (fail_if_success (focus (show _ = some true; (· simp only [go_sem, *]; try rfl)))); (· simp only [go_sem, *]; try rfl); all_goals (intro hb; try simp only [Bool.not_eq_true', Bool.not_eq_false'] at hb)) | (apply x_condS; (· simp only [go_sem, *]; try rfl); all_goals (intro hb; try simp only [Bool.not_eq_true', Bool.not_eq_false'] at hb)) | fail
      have hcm : (1 + q2.length = q2.length + 1) = True := by rw [Nat.add_comm]; simp
      (apply f_ret; iterate 7 (· simp only [go_sem, *, Tryz.results74]; try rfl))
      exact hh
  · have hh := H.out
    rw [hkd, if_neg (by decide), if_pos rfl] at hh
    have hk : ∀ S' (R : AOut → List Blk → Prop), R (.ret (.tup [.bool true, .bool false])) S' → ACall Tryz.prog w0 90 [.sval false (List.map By (p ++ [b]))] S' R := hk
    unfold stepV at hh
    simp only [List.map_nil] at hh
    clear hkd
    repeat' first | apply x_seq | apply x_skip | apply x_block | apply x_exit | apply x_ret | apply x_ops_nil | apply p_blk | apply p_exit_it | apply p_exit_hit | apply p_ret_it | apply p_ret_blk | apply p_panic_it | apply p_panic_blk | apply p_end | (apply p_exit_miss; (· rfl)) | (apply x_region; simp only [List.toList_toArray]) | (apply x_step0; (· rfl); (· simp only [go_sem, *]; try rfl); (· rfl); simp only [putA]) | (apply x_callA []; (· simp only [go_sem, *]; try rfl); (· rfl); (· simp only [go_sem, *]; try rfl); (· rfl); (iterate 2 (· simp only [go_sem, *]; try rfl)); (first | apply hk); simp only [afterCall, putA]) | (apply x_panic; (· simp only [go_sem, *]; try rfl); (· rfl); (· simp only [go_sem, *]; try rfl)) | (apply x_step; (iterate 2 (· simp only [go_sem, *]; try rfl)); (· rfl); simp only [putA]) | (apply x_unwanted; (· simp only [go_sem, *]; try rfl); (· rfl); simp only [putA]) | (apply x_condT; (· simp only [go_sem, *]; try rfl)) | (apply x_condF; (· simp only [go_sem, *]; try rfl)) | (apply x_guardS; (· rfl); (fail_if_success (focus (show _ = some true; (· simp only [go_sem, *]; try rfl)))); (· simp only [go_sem, *]; try rfl); all_goals (intro hb; try simp only [Bool.not_eq_true', Bool.not_eq_false'] at hb)) | (apply x_condS; (· simp only [go_sem, *]; try rfl); all_goals (intro hb; try simp only [Bool.not_eq_true', Bool.not_eq_false'] at hb)) | fail
    (apply f_ret; iterate 7 (· simp only [go_sem, *, Tryz.results74]; try rfl))
    exact hh
  · have hh := H.out
    rw [hkd, if_pos rfl] at hh
    have hk : ∀ S' (R : AOut → List Blk → Prop), R (.ret (.tup [.bool true, .bool true])) S' → ACall Tryz.prog w0 90 [.sval false (List.map By (p ++ [b]))] S' R := hk
    have hc := Hc.out
    have hsc := Hsc.out hkd
    rw [← hsc] at hh
    generalize spanR (p ++ [b]) = q at hc hh hsc
    obtain ⟨q1, q2, q3⟩ := q
    unfold stepV at hh
    unfold spanV at hc
    simp only [List.map_cons, List.map_nil, Co] at hh hc
    clear hkd hsc
    repeat' first | apply x_seq | apply x_skip | apply x_block | apply x_exit | apply x_ret | apply x_ops_nil | apply p_blk | apply p_exit_it | apply p_exit_hit | apply p_ret_it | apply p_ret_blk | apply p_panic_it | apply p_panic_blk | apply p_end | (apply p_exit_miss; (· rfl)) | (apply x_region; simp only [List.toList_toArray]) | (apply x_step0; (· rfl); (· simp only [go_sem, *]; try rfl); (· rfl); simp only [putA]) | (apply x_callA []; (· simp only [go_sem, *]; try rfl); (· rfl); (· simp only [go_sem, *]; try rfl); (· rfl); (iterate 2 (· simp only [go_sem, *]; try rfl)); (first | apply hk | apply hc); simp only [afterCall, putA]) | (apply x_panic; (· simp only [go_sem, *]; try rfl); (· rfl); (· simp only [go_sem, *]; try rfl)) | (apply x_step; (iterate 2 (· simp only [go_sem, *]; try rfl)); (· rfl); simp only [putA]) | (apply x_unwanted; (· simp only [go_sem, *]; try rfl); (· rfl); simp only [putA]) | (apply x_condT; (· simp only [go_sem, *]; try rfl)) | (apply x_condF; (· simp only [go_sem, *]; try rfl)) | (apply x_guardS; (· rfl); (fail_if_success (focus (show _ = some true; (· simp only [go_sem, *]; try rfl)))); (· simp only [go_sem, *]; try rfl); all_goals (intro hb; try simp only [Bool.not_eq_true', Bool.not_eq_false'] at hb)) | (apply x_condS; (· simp only [go_sem, *]; try rfl); all_goals (intro hb; try simp only [Bool.not_eq_true', Bool.not_eq_false'] at hb)) | fail
    (apply f_ret; iterate 7 (· simp only [go_sem, *, Tryz.results74]; try rfl))
    exact hh
end Go.Proofs.YtcobfilbmfokoaaGreatDoor
namespace Go.Proofs.YtcobfilbmfokoaaGreatDoor
open Go Go.Fen
set_option linter.unusedSimpArgs false
set_option linter.unusedVariables false
attribute [local irreducible] RunX WP ACall AnyP OpA ProtL
set_option maxRecDepth 8000
theorem rStep1 (w0 : World) (S : List Blk) (b : Nat) (hb : b < 256) (R : AOut → List Blk → Prop) (h : R (.ret (stepV (step1 b))) S) : ACall Tryz.prog w0 74 [.sval false [], .int .u8 b] S R := by
  refine rStepG w0 S [] b hb rfl (by simp) (fun hh => absurd rfl hh) R ?_
  have e : stepU [] b = step1 b := by unfold stepU step1; simp
  rw [e]; exact h
theorem rStep (w0 : World) (S : List Blk) (p : List Nat) (b : Nat) (hb : b < 256) (hr : rightU p = true) (hp : ∀ x ∈ p, x < 256) (R : AOut → List Blk → Prop) (h : R (.ret (stepV (stepU p b))) S) :
    ACall Tryz.prog w0 74 [.sval false (p.map By), .int .u8 b] S R :=
  rStepG w0 S p b hb hr hp (fun _ S' R h => rStep1 w0 S' b hb R h) R h
theorem st_len (l : List Nat) : (stU l).2.length ≤ 2 * l.length + 1 := by
  have h := (codesF_lt l []).2
  have e : codesF [] l = (stU l).2 ++ flushU (stU l).1 := codes_st l
  rw [e, List.length_append] at h
  omega
set_option maxHeartbeats 4000000 in
theorem rCodes (w0 : World) (S : List Blk) (s : List UInt8) (hs : s.length ≤ 100000000) (R : AOut → List Blk → Prop) (h : R (.ret (.sval false ((codesB s).map Co))) S) : ACall Tryz.prog w0 57 [.str s] S R := by
  have hsm : ∀ b ∈ s.map UInt8.toNat, b < 256 := by
    intro b hb
    obtain ⟨c, _, rfl⟩ := List.mem_map.1 hb
    exact c.toNat_lt
  have hall := st_ok (s.map UInt8.toNat) hsm
  have hcb : codesB s = (stU (s.map UInt8.toNat)).2 ++ flushU (stU (s.map UInt8.toNat)).1 := codes_st _
  have Hall := Lib.hid hall
  have Hcb := Lib.hid hcb
  clear hall hcb hsm
  refine enter Tryz.func57 rfl (by decide +kernel) (by rw [Tryz.ntmps57]; simp) (by rw [Tryz.ntmps57]; decide) (fun hO => ?_); rw [Tryz.ntmps57]
  repeat' first | apply x_seq | apply x_skip | apply x_block | apply x_exit | apply x_ret | apply x_ops_nil | apply p_blk | apply p_exit_it | apply p_exit_hit | apply p_ret_it | apply p_ret_blk | apply p_panic_it | apply p_panic_blk | apply p_end | (apply p_exit_miss; (· rfl)) | (apply x_region; simp only [List.toList_toArray]) | (apply x_step0; (· rfl); (· simp only [go_sem, *]; try rfl); (· rfl); simp only [putA]) | (apply x_panic; (· simp only [go_sem, *]; try rfl); (· rfl); (· simp only [go_sem, *]; try rfl)) | (apply x_step; (iterate 2 (· simp only [go_sem, *]; try rfl)); (· rfl); simp only [putA]) | (apply x_unwanted; (· simp only [go_sem, *]; try rfl); (· rfl); simp only [putA]) | (apply x_condT; (· simp only [go_sem, *]; try rfl)) | (apply x_condF; (· simp only [go_sem, *]; try rfl)) | (apply x_guardS; (· rfl); (fail_if_success (focus (show _ = some true; (· simp only [go_sem, *]; try rfl)))); (· simp only [go_sem, *]; try rfl); all_goals (intro hb; try simp only [Bool.not_eq_true', Bool.not_eq_false'] at hb)) | (apply x_condS; (· simp only [go_sem, *]; try rfl); all_goals (intro hb; try simp only [Bool.not_eq_true', Bool.not_eq_false'] at hb)) | fail
  refine x_thaw (t := 3) 3 1 (by (simp only [go_sem, *]; try rfl)) (by decide) ?_
  refine x_soft (t := 4) (by (simp only [go_sem, *]; try rfl)) ?_
  try simp only [go_sem, *]
  refine x_ind (fun (i : Nat) env S' => i ≤ s.length ∧ env 1000000 = .dfr [] ∧ env 0 = .str s ∧ env 3 = .sown S.length i (stU ((s.map UInt8.toNat).take i)).2.length ∧ env 4 = .sval false ((stU ((s.map UInt8.toNat).take i)).1.map By) ∧ env 5 = .int .i64 (i : Int) ∧
    S' = S ++ [.arr 3 1 0 i ((stU ((s.map UInt8.toNat).take i)).2.map Co)]) (fun i => s.length - i) 0 ?_ ?_
  · exact ⟨Nat.zero_le _, by (simp only [go_sem, *]; try rfl), by (simp only [go_sem, *]; try rfl), by (simp only [go_sem, *]; try rfl), by (simp only [go_sem, *]; try rfl), by (simp only [go_sem, *]; try rfl), rfl⟩
  · rintro i env S' ⟨hi, e0, f0, f3, f4, f5, rfl⟩ IH
    have HI := Lib.hid IH
    have H := Lib.hid h
    clear IH h
    obtain ⟨hri, hpb⟩ := Hall.out i
    have hsl := st_len ((s.map UInt8.toNat).take i)
    have htl : ((s.map UInt8.toNat).take i).length ≤ i := List.length_take_le _ _
    by_cases hlt : i < s.length
    · obtain ⟨c, hx⟩ : ∃ c, s[i]? = some c := ⟨_, List.getElem?_eq_getElem hlt⟩
      have hct : c.toNat < 256 := c.toNat_lt
      have hxn : (s.map UInt8.toNat)[i]? = some c.toNat := by rw [List.getElem?_map, hx]; rfl
      have hsucc := st_succ hxn
      have hst := fun S' => rStep w0 S' (stU ((s.map UInt8.toNat).take i)).1 c.toNat hct hri hpb
      have hcl := (step_codes (stU ((s.map UInt8.toNat).take i)).1 c.toNat).2
      generalize stU ((s.map UInt8.toNat).take i) = q at *
      obtain ⟨p, o⟩ := q
      simp only at hst hsucc hcl f3 f4 hsl hri hpb ⊢
      generalize stepU p c.toNat = r at hst hsucc hcl
      obtain ⟨p', o'⟩ := r
      unfold stepV at hst
      simp only at hst hsucc hcl
      have h1 : decide ((i : Int) < (s.length : Int)) = true := by simpa using hlt
      have hw1 : IntKind.i64.wrap ((i : Int) + 1) = (i : Int) + 1 := IntWalk.i64_in _ (by omega)
      have hb8 : (o.length + o'.length) * 8 ≤ 140737488355328 := by omega
      have okC := Co.ok o'
      simp only [okEls, AV.cells] at okC
      have Hsucc := Lib.hid hsucc
      have Hlt := Lib.hid hlt
      have hlen : (o.map Co).length = o.length := by simp
      clear hi hs hct hxn hcl hri hpb hsucc hsl htl hlt
      repeat' first | apply x_seq | apply x_skip | apply x_block | apply x_exit | apply x_ret | apply x_ops_nil | apply p_blk | apply p_exit_it | apply p_exit_hit | apply p_ret_it | apply p_ret_blk | apply p_panic_it | apply p_panic_blk | apply p_end | (apply p_exit_miss; (· rfl)) | (apply x_region; simp only [List.toList_toArray]) | (apply x_step0; (· rfl); (· simp only [go_sem, *]; try rfl); (· rfl); simp only [putA]) | (apply x_callA []; (· simp only [go_sem, *]; try rfl); (· rfl); (· simp only [go_sem, *]; try rfl); (· rfl); (iterate 2 (· simp only [go_sem, *]; try rfl)); (first | apply hst); simp only [afterCall, putA]) | (apply x_panic; (· simp only [go_sem, *]; try rfl); (· rfl); (· simp only [go_sem, *]; try rfl)) | (apply x_step; (iterate 2 (· simp only [go_sem, *]; try rfl)); (· rfl); simp only [putA]) | (apply x_unwanted; (· simp only [go_sem, *]; try rfl); (· rfl); simp only [putA]) | (apply x_condT; (· simp only [go_sem, *]; try rfl)) | (apply x_condF; (· simp only [go_sem, *]; try rfl)) | (apply x_guardS; (· rfl); (fail_if_success (focus (show _ = some true; (· simp only [go_sem, *]; try rfl)))); (· simp only [go_sem, *]; try rfl); all_goals (intro hb; try simp only [Bool.not_eq_true', Bool.not_eq_false'] at hb)) | (apply x_condS; (· simp only [go_sem, *]; try rfl); all_goals (intro hb; try simp only [Bool.not_eq_true', Bool.not_eq_false'] at hb)) | fail
      refine x_keep hO 1 [0, 3, 4, 5] rfl (by (simp only [go_sem, *]; try rfl)) (by (simp only [go_sem, *]; try rfl)) (by (simp only [go_sem, *]; try rfl)) ?_
      simp only [List.take_succ_cons, List.take_zero]
      refine HI.out (i + 1) _ _ (by have := Hlt.out; omega) ⟨Hlt.out, ?_, ?_, ?_, ?_, ?_, ?_⟩
      · (simp only [go_sem, *]; try rfl)
      · (simp only [go_sem, *]; try rfl)
      · rw [Hsucc.out, List.length_append]; first | done | (simp only [go_sem, *]; try rfl)
      · rw [Hsucc.out]; first | done | (simp only [go_sem, *]; try rfl)
      · (simp only [go_sem, *]; try rfl)
      · rw [Hsucc.out, List.map_append]; first | done | rfl
    · have hie : i = s.length := by omega
      subst hie
      have htk : (s.map UInt8.toNat).take s.length = s.map UInt8.toNat := by rw [← List.length_map (f := UInt8.toNat), List.take_length]
      rw [htk] at hri hpb hsl f3 f4 ⊢
      have hfl := fun S' => rFlush w0 S' (stU (s.map UInt8.toNat)).1 hpb hri
      have hcb := Hcb.out
      have hf1 : (flushU (stU (s.map UInt8.toNat)).1).length ≤ 1 := by unfold flushU; split <;> simp
      generalize stU (s.map UInt8.toNat) = q at *
      obtain ⟨p, o⟩ := q
      simp only at hfl hcb f3 f4 hsl hri hpb hf1 ⊢
      generalize flushU p = fl at hfl hcb hf1
      have h1 : decide ((s.length : Int) < (s.length : Int)) = false := by simp
      have hml : (s.map UInt8.toNat).length = s.length := by simp
      have hb8 : (o.length + fl.length) * 8 ≤ 140737488355328 := by omega
      have okC := Co.ok fl
      simp only [okEls, AV.cells] at okC
      have hlen : (o.map Co).length = o.length := by simp
      have hh := H.out
      rw [hcb] at hh
      clear hi hs hri hpb hsl htl hlt hf1 htk hcb hml
      repeat' first | apply x_seq | apply x_skip | apply x_block | apply x_exit | apply x_ret | apply x_ops_nil | apply p_blk | apply p_exit_it | apply p_exit_hit | apply p_ret_it | apply p_ret_blk | apply p_panic_it | apply p_panic_blk | apply p_end | (apply p_exit_miss; (· rfl)) | (apply x_region; simp only [List.toList_toArray]) | (apply x_step0; (· rfl); (· simp only [go_sem, *]; try rfl); (· rfl); simp only [putA]) | (apply x_callA []; (· simp only [go_sem, *]; try rfl); (· rfl); (· simp only [go_sem, *]; try rfl); (· rfl); (iterate 2 (· simp only [go_sem, *]; try rfl)); (first | apply hfl); simp only [afterCall, putA]) | (apply x_panic; (· simp only [go_sem, *]; try rfl); (· rfl); (· simp only [go_sem, *]; try rfl)) | (apply x_step; (iterate 2 (· simp only [go_sem, *]; try rfl)); (· rfl); simp only [putA]) | (apply x_unwanted; (· simp only [go_sem, *]; try rfl); (· rfl); simp only [putA]) | (apply x_condT; (· simp only [go_sem, *]; try rfl)) | (apply x_condF; (· simp only [go_sem, *]; try rfl)) | (apply x_guardS; (· rfl); (fail_if_success (focus (show _ = some true; (· simp only [go_sem, *]; try rfl)))); (· simp only [go_sem, *]; try rfl); all_goals (intro hb; try simp only [Bool.not_eq_true', Bool.not_eq_false'] at hb)) | (apply x_condS; (· simp only [go_sem, *]; try rfl); all_goals (intro hb; try simp only [Bool.not_eq_true', Bool.not_eq_false'] at hb)) | fail
      rw [← List.map_append]
      have hln : (o ++ fl).length = o.length + fl.length := List.length_append
      (apply f_ret; iterate 7 (· simp only [go_sem, *, Tryz.results57]; try rfl))
      exact hh
end Go.Proofs.YtcobfilbmfokoaaGreatDoor
namespace Go.Proofs.YtcobfilbmfokoaaGreatDoor
open Go Go.Fen
set_option linter.unusedSimpArgs false
set_option linter.unusedVariables false
attribute [local irreducible] RunX WP ACall AnyP OpA ProtL
set_option maxRecDepth 8000
def sizeN (cp : Nat) : Nat := if cp < 128 then 1 else if cp < 2048 then 2 else if cp < 65536 then 3 else 4
theorem rCheck (w0 : World) (S : List Blk) (cp : Nat) (R : AOut → List Blk → Prop) (h : R (.ret (.bool (okU cp))) S) : ACall Tryz.prog w0 92 [.int .i64 cp] S R := by
  have d0 : decide ((0 : Int) ≤ (cp : Int)) = true := by simp
  by_cases c1 : cp ≤ 1114111
  · have d1 : decide ((cp : Int) ≤ 1114111) = true := by simp; omega
    by_cases c2 : cp < 55296
    · have d2 : decide ((cp : Int) < 55296) = true := by simp; omega
      have e : okU cp = true := by unfold okU; simp; omega
      rw [e] at h
      clear e c1 c2
      refine enter Tryz.func92 rfl (by decide +kernel) (by rw [Tryz.ntmps92]; simp) (by rw [Tryz.ntmps92]; decide) (fun hO => ?_); rw [Tryz.ntmps92]
      repeat' first | apply x_seq | apply x_skip | apply x_block | apply x_exit | apply x_ret | apply x_ops_nil | apply p_blk | apply p_exit_it | apply p_exit_hit | apply p_ret_it | apply p_ret_blk | apply p_panic_it | apply p_panic_blk | apply p_end | (apply p_exit_miss; (· rfl)) | (apply x_region; simp only [List.toList_toArray]) | (apply x_step0; (· rfl); (· simp only [go_sem, *]; try rfl); (· rfl); simp only [putA]) | (apply x_panic; (· simp only [go_sem, *]; try rfl); (· rfl); (· simp only [go_sem, *]; try rfl)) | (apply x_step; (iterate 2 (· simp only [go_sem, *]; try rfl)); (· rfl); simp only [putA]) | (apply x_unwanted; (· simp only [go_sem, *]; try rfl); (· rfl); simp only [putA]) | (apply x_condT; (· simp only [go_sem, *]; try rfl)) | (apply x_condF; (· simp only [go_sem, *]; try rfl)) | (apply x_guardS; (· rfl); (fail_if_success (focus (show _ = some true; (· simp only [go_sem, *]; try rfl)))); (· simp only [go_sem, *]; try rfl); all_goals (intro hb; try simp only [Bool.not_eq_true', Bool.not_eq_false'] at hb)) | (apply x_condS; (· simp only [go_sem, *]; try rfl); all_goals (intro hb; try simp only [Bool.not_eq_true', Bool.not_eq_false'] at hb)) | fail
      (apply f_ret; iterate 7 (· simp only [go_sem, *, Tryz.results92]; try rfl))
      exact h
    · have d2 : decide ((cp : Int) < 55296) = false := by simp; omega
      by_cases c3 : 57343 < cp
      · have d3 : decide ((57343 : Int) < (cp : Int)) = true := by simp; omega
        have e : okU cp = true := by unfold okU; simp; omega
        rw [e] at h
        clear e c1 c2 c3
        refine enter Tryz.func92 rfl (by decide +kernel) (by rw [Tryz.ntmps92]; simp) (by rw [Tryz.ntmps92]; decide) (fun hO => ?_); rw [Tryz.ntmps92]
        repeat' first | apply x_seq | apply x_skip | apply x_block | apply x_exit | apply x_ret | apply x_ops_nil | apply p_blk | apply p_exit_it | apply p_exit_hit | apply p_ret_it | apply p_ret_blk | apply p_panic_it | apply p_panic_blk | apply p_end | (apply p_exit_miss; (· rfl)) | (apply x_region; simp only [List.toList_toArray]) | (apply x_step0; (· rfl); (· simp only [go_sem, *]; try rfl); (· rfl); simp only [putA]) | (apply x_panic; (· simp only [go_sem, *]; try rfl); (· rfl); (· simp only [go_sem, *]; try rfl)) | (apply x_step; (iterate 2 (· simp only [go_sem, *]; try rfl)); (· rfl); simp only [putA]) | (apply x_unwanted; (· simp only [go_sem, *]; try rfl); (· rfl); simp only [putA]) | (apply x_condT; (· simp only [go_sem, *]; try rfl)) | (apply x_condF; (· simp only [go_sem, *]; try rfl)) | (apply x_guardS; (· rfl); (fail_if_success (focus (show _ = some true; (· simp only [go_sem, *]; try rfl)))); (· simp only [go_sem, *]; try rfl); all_goals (intro hb; try simp only [Bool.not_eq_true', Bool.not_eq_false'] at hb)) | (apply x_condS; (· simp only [go_sem, *]; try rfl); all_goals (intro hb; try simp only [Bool.not_eq_true', Bool.not_eq_false'] at hb)) | fail
        (apply f_ret; iterate 7 (· simp only [go_sem, *, Tryz.results92]; try rfl))
        exact h
      · have d3 : decide ((57343 : Int) < (cp : Int)) = false := by simp; omega
        have e : okU cp = false := by unfold okU; simp; omega
        rw [e] at h
        clear e c1 c2 c3
        refine enter Tryz.func92 rfl (by decide +kernel) (by rw [Tryz.ntmps92]; simp) (by rw [Tryz.ntmps92]; decide) (fun hO => ?_); rw [Tryz.ntmps92]
        repeat' first | apply x_seq | apply x_skip | apply x_block | apply x_exit | apply x_ret | apply x_ops_nil | apply p_blk | apply p_exit_it | apply p_exit_hit | apply p_ret_it | apply p_ret_blk | apply p_panic_it | apply p_panic_blk | apply p_end | (apply p_exit_miss; (· rfl)) | (apply x_region; simp only [List.toList_toArray]) | (apply x_step0; (· rfl); (· simp only [go_sem, *]; try rfl); (· rfl); simp only [putA]) | (apply x_panic; (· simp only [go_sem, *]; try rfl); (· rfl); (· simp only [go_sem, *]; try rfl)) | (apply x_step; (iterate 2 (· simp only [go_sem, *]; try rfl)); (· rfl); simp only [putA]) | (apply x_unwanted; (· simp only [go_sem, *]; try rfl); (· rfl); simp only [putA]) | (apply x_condT; (· simp only [go_sem, *]; try rfl)) | (apply x_condF; (· simp only [go_sem, *]; try rfl)) | (apply x_guardS; (· rfl); (fail_if_success (focus (show _ = some true; (· simp only [go_sem, *]; try rfl)))); (· simp only [go_sem, *]; try rfl); all_goals (intro hb; try simp only [Bool.not_eq_true', Bool.not_eq_false'] at hb)) | (apply x_condS; (· simp only [go_sem, *]; try rfl); all_goals (intro hb; try simp only [Bool.not_eq_true', Bool.not_eq_false'] at hb)) | fail
        (apply f_ret; iterate 7 (· simp only [go_sem, *, Tryz.results92]; try rfl))
        exact h
  · have d1 : decide ((cp : Int) ≤ 1114111) = false := by simp; omega
    have e : okU cp = false := by unfold okU; simp; omega
    rw [e] at h
    clear e c1
    refine enter Tryz.func92 rfl (by decide +kernel) (by rw [Tryz.ntmps92]; simp) (by rw [Tryz.ntmps92]; decide) (fun hO => ?_); rw [Tryz.ntmps92]
    repeat' first | apply x_seq | apply x_skip | apply x_block | apply x_exit | apply x_ret | apply x_ops_nil | apply p_blk | apply p_exit_it | apply p_exit_hit | apply p_ret_it | apply p_ret_blk | apply p_panic_it | apply p_panic_blk | apply p_end | (apply p_exit_miss; (· rfl)) | (apply x_region; simp only [List.toList_toArray]) | (apply x_step0; (· rfl); (· simp only [go_sem, *]; try rfl); (· rfl); simp only [putA]) | (apply x_panic; (· simp only [go_sem, *]; try rfl); (· rfl); (· simp only [go_sem, *]; try rfl)) | (apply x_step; (iterate 2 (· simp only [go_sem, *]; try rfl)); (· rfl); simp only [putA]) | (apply x_unwanted; (· simp only [go_sem, *]; try rfl); (· rfl); simp only [putA]) | (apply x_condT; (· simp only [go_sem, *]; try rfl)) | (apply x_condF; (· simp only [go_sem, *]; try rfl)) | (apply x_guardS; (· rfl); (fail_if_success (focus (show _ = some true; (· simp only [go_sem, *]; try rfl)))); (· simp only [go_sem, *]; try rfl); all_goals (intro hb; try simp only [Bool.not_eq_true', Bool.not_eq_false'] at hb)) | (apply x_condS; (· simp only [go_sem, *]; try rfl); all_goals (intro hb; try simp only [Bool.not_eq_true', Bool.not_eq_false'] at hb)) | fail
    (apply f_ret; iterate 7 (· simp only [go_sem, *, Tryz.results92]; try rfl))
    exact h
theorem rSize (w0 : World) (S : List Blk) (cp : Nat) (R : AOut → List Blk → Prop) (h : R (.ret (.int .i64 (sizeN cp : Nat))) S) : ACall Tryz.prog w0 93 [.int .i64 cp] S R := by
  by_cases c1 : cp < 128
  · have d1 : decide ((cp : Int) < 128) = true := by simp; omega
    have e : sizeN cp = 1 := by unfold sizeN; rw [if_pos c1]
    rw [e] at h
    have h : R (.ret (.int .i64 1)) S := h
    clear e c1
    refine enter Tryz.func93 rfl (by decide +kernel) (by rw [Tryz.ntmps93]; simp) (by rw [Tryz.ntmps93]; decide) (fun hO => ?_); rw [Tryz.ntmps93]
    repeat' first | apply x_seq | apply x_skip | apply x_block | apply x_exit | apply x_ret | apply x_ops_nil | apply p_blk | apply p_exit_it | apply p_exit_hit | apply p_ret_it | apply p_ret_blk | apply p_panic_it | apply p_panic_blk | apply p_end | (apply p_exit_miss; (· rfl)) | (apply x_region; simp only [List.toList_toArray]) | (apply x_step0; (· rfl); (· simp only [go_sem, *]; try rfl); (· rfl); simp only [putA]) | (apply x_panic; (· simp only [go_sem, *]; try rfl); (· rfl); (· simp only [go_sem, *]; try rfl)) | (apply x_step; (iterate 2 (· simp only [go_sem, *]; try rfl)); (· rfl); simp only [putA]) | (apply x_unwanted; (· simp only [go_sem, *]; try rfl); (· rfl); simp only [putA]) | (apply x_condT; (· simp only [go_sem, *]; try rfl)) | (apply x_condF; (· simp only [go_sem, *]; try rfl)) | (apply x_guardS; (· rfl); (fail_if_success (focus (show _ = some true; (· simp only [go_sem, *]; try rfl)))); (· simp only [go_sem, *]; try rfl); all_goals (intro hb; try simp only [Bool.not_eq_true', Bool.not_eq_false'] at hb)) | (apply x_condS; (· simp only [go_sem, *]; try rfl); all_goals (intro hb; try simp only [Bool.not_eq_true', Bool.not_eq_false'] at hb)) | fail
    (apply f_ret; iterate 7 (· simp only [go_sem, *, Tryz.results93]; try rfl))
    exact h
  have d1 : decide ((cp : Int) < 128) = false := by simp; omega
  by_cases c2 : cp < 2048
  · have d2 : decide ((cp : Int) < 2048) = true := by simp; omega
    have e : sizeN cp = 2 := by unfold sizeN; rw [if_neg c1, if_pos c2]
    rw [e] at h
    have h : R (.ret (.int .i64 2)) S := h
    clear e c1 c2
    refine enter Tryz.func93 rfl (by decide +kernel) (by rw [Tryz.ntmps93]; simp) (by rw [Tryz.ntmps93]; decide) (fun hO => ?_); rw [Tryz.ntmps93]
    repeat' first | apply x_seq | apply x_skip | apply x_block | apply x_exit | apply x_ret | apply x_ops_nil | apply p_blk | apply p_exit_it | apply p_exit_hit | apply p_ret_it | apply p_ret_blk | apply p_panic_it | apply p_panic_blk | apply p_end | (apply p_exit_miss; (· rfl)) | (apply x_region; simp only [List.toList_toArray]) | (apply x_step0; (· rfl); (· simp only [go_sem, *]; try rfl); (· rfl); simp only [putA]) | (apply x_panic; (· simp only [go_sem, *]; try rfl); (· rfl); (· simp only [go_sem, *]; try rfl)) | (apply x_step; (iterate 2 (· simp only [go_sem, *]; try rfl)); (· rfl); simp only [putA]) | (apply x_unwanted; (· simp only [go_sem, *]; try rfl); (· rfl); simp only [putA]) | (apply x_condT; (· simp only [go_sem, *]; try rfl)) | (apply x_condF; (· simp only [go_sem, *]; try rfl)) | (apply x_guardS; (· rfl); (fail_if_success (focus (show _ = some true; (· simp only [go_sem, *]; try rfl)))); (· simp only [go_sem, *]; try rfl); all_goals (intro hb; try simp only [Bool.not_eq_true', Bool.not_eq_false'] at hb)) | (apply x_condS; (· simp only [go_sem, *]; try rfl); all_goals (intro hb; try simp only [Bool.not_eq_true', Bool.not_eq_false'] at hb)) | fail
    (apply f_ret; iterate 7 (· simp only [go_sem, *, Tryz.results93]; try rfl))
    exact h
  have d2 : decide ((cp : Int) < 2048) = false := by simp; omega
  by_cases c3 : cp < 65536
  · have d3 : decide ((cp : Int) < 65536) = true := by simp; omega
    have e : sizeN cp = 3 := by unfold sizeN; rw [if_neg c1, if_neg c2, if_pos c3]
    rw [e] at h
    have h : R (.ret (.int .i64 3)) S := h
    clear e c1 c2 c3
    refine enter Tryz.func93 rfl (by decide +kernel) (by rw [Tryz.ntmps93]; simp) (by rw [Tryz.ntmps93]; decide) (fun hO => ?_); rw [Tryz.ntmps93]
    repeat' first | apply x_seq | apply x_skip | apply x_block | apply x_exit | apply x_ret | apply x_ops_nil | apply p_blk | apply p_exit_it | apply p_exit_hit | apply p_ret_it | apply p_ret_blk | apply p_panic_it | apply p_panic_blk | apply p_end | (apply p_exit_miss; (· rfl)) | (apply x_region; simp only [List.toList_toArray]) | (apply x_step0; (· rfl); (· simp only [go_sem, *]; try rfl); (· rfl); simp only [putA]) | (apply x_panic; (· simp only [go_sem, *]; try rfl); (· rfl); (· simp only [go_sem, *]; try rfl)) | (apply x_step; (iterate 2 (· simp only [go_sem, *]; try rfl)); (· rfl); simp only [putA]) | (apply x_unwanted; (· simp only [go_sem, *]; try rfl); (· rfl); simp only [putA]) | (apply x_condT; (· simp only [go_sem, *]; try rfl)) | (apply x_condF; (· simp only [go_sem, *]; try rfl)) | (apply x_guardS; (· rfl); (fail_if_success (focus (show _ = some true; (· simp only [go_sem, *]; try rfl)))); (· simp only [go_sem, *]; try rfl); all_goals (intro hb; try simp only [Bool.not_eq_true', Bool.not_eq_false'] at hb)) | (apply x_condS; (· simp only [go_sem, *]; try rfl); all_goals (intro hb; try simp only [Bool.not_eq_true', Bool.not_eq_false'] at hb)) | fail
    (apply f_ret; iterate 7 (· simp only [go_sem, *, Tryz.results93]; try rfl))
    exact h
  have d3 : decide ((cp : Int) < 65536) = false := by simp; omega
  have e : sizeN cp = 4 := by unfold sizeN; rw [if_neg c1, if_neg c2, if_neg c3]
  rw [e] at h
  have h : R (.ret (.int .i64 4)) S := h
  clear e c1 c2 c3
  refine enter Tryz.func93 rfl (by decide +kernel) (by rw [Tryz.ntmps93]; simp) (by rw [Tryz.ntmps93]; decide) (fun hO => ?_); rw [Tryz.ntmps93]
  repeat' first | apply x_seq | apply x_skip | apply x_block | apply x_exit | apply x_ret | apply x_ops_nil | apply p_blk | apply p_exit_it | apply p_exit_hit | apply p_ret_it | apply p_ret_blk | apply p_panic_it | apply p_panic_blk | apply p_end | (apply p_exit_miss; (· rfl)) | (apply x_region; simp only [List.toList_toArray]) | (apply x_step0; (· rfl); (· simp only [go_sem, *]; try rfl); (· rfl); simp only [putA]) | (apply x_panic; (· simp only [go_sem, *]; try rfl); (· rfl); (· simp only [go_sem, *]; try rfl)) | (apply x_step; (iterate 2 (· simp only [go_sem, *]; try rfl)); (· rfl); simp only [putA]) | (apply x_unwanted; (· simp only [go_sem, *]; try rfl); (· rfl); simp only [putA]) | (apply x_condT; (· simp only [go_sem, *]; try rfl)) | (apply x_condF; (· simp only [go_sem, *]; try rfl)) | (apply x_guardS; (· rfl); (fail_if_success (focus (show _ = some true; (· simp only [go_sem, *]; try rfl)))); (· simp only [go_sem, *]; try rfl); all_goals (intro hb; try simp only [Bool.not_eq_true', Bool.not_eq_false'] at hb)) | (apply x_condS; (· simp only [go_sem, *]; try rfl); all_goals (intro hb; try simp only [Bool.not_eq_true', Bool.not_eq_false'] at hb)) | fail
  (apply f_ret; iterate 7 (· simp only [go_sem, *, Tryz.results93]; try rfl))
  exact h
theorem tm64 (c : Nat) : (c : Int).tmod 64 = ((c % 64 : Nat) : Int) := by rw [Int.tmod_eq_emod_of_nonneg (by omega)]; omega
theorem td64 (c : Nat) (h : c < 4294967296) : IntKind.i64.wrap ((c : Int).tdiv 64) = ((c / 64 : Nat) : Int) := by
  rw [Int.tdiv_eq_ediv_of_nonneg (by omega), IntWalk.i64_in _ (by omega)]; omega
theorem wb64 (c : Nat) : IntKind.i64.wrap (128 + ((c % 64 : Nat) : Int)) = ((128 + c % 64 : Nat) : Int) := by rw [IntWalk.i64_in _ (by omega)]; omega
theorem wu64 (c : Nat) : IntKind.u8.wrap ((128 + c % 64 : Nat) : Int) = ((128 + c % 64 : Nat) : Int) := IntWalk.u8_in _ (by omega)
set_option maxHeartbeats 4000000 in
theorem rPut (w0 : World) (S : List Blk) (cp : Nat) (hb : cp < 4294967296) (R : AOut → List Blk → Prop) (h : R (.ret (.str (putS cp))) S) : ACall Tryz.prog w0 76 [.int .i64 cp] S R := by
  have hck := fun S' => rCheck w0 S' cp
  unfold putS putU at h
  cases hok : okU cp with
  | false =>
    rw [hok, if_neg (by decide)] at h
    rw [hok] at hck
    have h : R (.ret (.str [239, 191, 189])) S := h
    have hsz : ∀ S' (R : AOut → List Blk → Prop), R (.ret (.int .i64 3)) S' → ACall Tryz.prog w0 93 [.int .i64 65533] S' R := fun S' R hr => rSize w0 S' 65533 R hr
    have z1 : (65533 : Int).tmod 64 = 61 := by decide
    have z2 : IntKind.i64.wrap ((65533 : Int).tdiv 64) = 1023 := by decide
    have z3 : (1023 : Int).tmod 64 = 63 := by decide
    have z4 : IntKind.i64.wrap ((1023 : Int).tdiv 64) = 15 := by decide
    clear hb hok
    refine enter Tryz.func76 rfl (by decide +kernel) (by rw [Tryz.ntmps76]; simp) (by rw [Tryz.ntmps76]; decide) (fun hO => ?_); rw [Tryz.ntmps76]
    repeat' first | apply x_seq | apply x_skip | apply x_block | apply x_exit | apply x_ret | apply x_ops_nil | apply p_blk | apply p_exit_it | apply p_exit_hit | apply p_ret_it | apply p_ret_blk | apply p_panic_it | apply p_panic_blk | apply p_end | (apply p_exit_miss; (· rfl)) | (apply x_region; simp only [List.toList_toArray]) | (apply x_step0; (· rfl); (· simp only [go_sem, *]; try rfl); (· rfl); simp only [putA]) | (apply x_callA []; (· simp only [go_sem, *]; try rfl); (· rfl); (· simp only [go_sem, *]; try rfl); (· rfl); (iterate 2 (· simp only [go_sem, *]; try rfl)); (first | apply hck | apply hsz); simp only [afterCall, putA]) | (apply x_panic; (· simp only [go_sem, *]; try rfl); (· rfl); (· simp only [go_sem, *]; try rfl)) | (apply x_step; (iterate 2 (· simp only [go_sem, *]; try rfl)); (· rfl); simp only [putA]) | (apply x_unwanted; (· simp only [go_sem, *]; try rfl); (· rfl); simp only [putA]) | (apply x_condT; (· simp only [go_sem, *]; try rfl)) | (apply x_condF; (· simp only [go_sem, *]; try rfl)) | (apply x_guardS; (· rfl); (fail_if_success (focus (show _ = some true; (· simp only [go_sem, *]; try rfl)))); (· simp only [go_sem, *]; try rfl); all_goals (intro hb; try simp only [Bool.not_eq_true', Bool.not_eq_false'] at hb)) | (apply x_condS; (· simp only [go_sem, *]; try rfl); all_goals (intro hb; try simp only [Bool.not_eq_true', Bool.not_eq_false'] at hb)) | apply x_loop | apply x_lp | fail
    (apply f_ret; iterate 7 (· simp only [go_sem, *, Tryz.results76]; try rfl))
    exact h
  | true =>
    rw [hok, if_pos rfl] at h
    rw [hok] at hck
    have hle : cp ≤ 1114111 := by
      simp only [okU, Bool.and_eq_true, decide_eq_true_eq] at hok
      exact hok.1
    have hsz := fun S' => rSize w0 S' cp
    have t0 := tm64 cp
    have t1 := tm64 (cp / 64)
    have t2 := tm64 (cp / 64 / 64)
    have q0 := td64 cp hb
    have q1 := td64 (cp / 64) (by omega)
    have q2 := td64 (cp / 64 / 64) (by omega)
    have b0 := wb64 cp
    have b1 := wb64 (cp / 64)
    have b2 := wb64 (cp / 64 / 64)
    have u0 := wu64 cp
    have u1 := wu64 (cp / 64)
    have u2 := wu64 (cp / 64 / 64)
    clear hok hb
    unfold sizeN at hsz
    by_cases h1 : cp < 128
    · have e : putN cp = [cp] := by unfold putN; rw [if_pos h1]
      rw [e] at h
      rw [if_pos h1] at hsz
      have hsz : ∀ S' (R : AOut → List Blk → Prop), R (.ret (.int .i64 1)) S' → ACall Tryz.prog w0 93 [.int .i64 cp] S' R := hsz
      have wc : IntKind.u8.wrap (cp : Int) = (cp : Int) := IntWalk.u8_in _ (by omega)
      have h : R (.ret (.str [UInt8.ofNat cp])) S := h
      clear e h1 hle t0 t1 t2 q0 q1 q2 b0 b1 b2 u0 u1 u2
      refine enter Tryz.func76 rfl (by decide +kernel) (by rw [Tryz.ntmps76]; simp) (by rw [Tryz.ntmps76]; decide) (fun hO => ?_); rw [Tryz.ntmps76]
      repeat' first | apply x_seq | apply x_skip | apply x_block | apply x_exit | apply x_ret | apply x_ops_nil | apply p_blk | apply p_exit_it | apply p_exit_hit | apply p_ret_it | apply p_ret_blk | apply p_panic_it | apply p_panic_blk | apply p_end | (apply p_exit_miss; (· rfl)) | (apply x_region; simp only [List.toList_toArray]) | (apply x_step0; (· rfl); (· simp only [go_sem, *]; try rfl); (· rfl); simp only [putA]) | (apply x_callA []; (· simp only [go_sem, *]; try rfl); (· rfl); (· simp only [go_sem, *]; try rfl); (· rfl); (iterate 2 (· simp only [go_sem, *]; try rfl)); (first | apply hck | apply hsz); simp only [afterCall, putA]) | (apply x_panic; (· simp only [go_sem, *]; try rfl); (· rfl); (· simp only [go_sem, *]; try rfl)) | (apply x_step; (iterate 2 (· simp only [go_sem, *]; try rfl)); (· rfl); simp only [putA]) | (apply x_unwanted; (· simp only [go_sem, *]; try rfl); (· rfl); simp only [putA]) | (apply x_condT; (· simp only [go_sem, *]; try rfl)) | (apply x_condF; (· simp only [go_sem, *]; try rfl)) | (apply x_guardS; (· rfl); (fail_if_success (focus (show _ = some true; (· simp only [go_sem, *]; try rfl)))); (· simp only [go_sem, *]; try rfl); all_goals (intro hb; try simp only [Bool.not_eq_true', Bool.not_eq_false'] at hb)) | (apply x_condS; (· simp only [go_sem, *]; try rfl); all_goals (intro hb; try simp only [Bool.not_eq_true', Bool.not_eq_false'] at hb)) | fail
      (apply f_ret; iterate 7 (· simp only [go_sem, *, Tryz.results76]; try rfl))
      exact h
    by_cases h2 : cp < 2048
    · have e : putN cp = [192 + cp / 64, 128 + cp % 64] := by unfold putN; rw [if_neg h1, if_pos h2]; try simp only [Nat.div_div_eq_div_mul, Nat.reduceMul]
      rw [e] at h
      rw [if_neg h1, if_pos h2] at hsz
      have hsz : ∀ S' (R : AOut → List Blk → Prop), R (.ret (.int .i64 2)) S' → ACall Tryz.prog w0 93 [.int .i64 cp] S' R := hsz
      obtain ⟨tp, htp⟩ : ∃ tp, cp / 64 = tp := ⟨_, rfl⟩
      have wt : IntKind.i64.wrap (192 + (tp : Int)) = ((192 + tp : Nat) : Int) := by rw [IntWalk.i64_in _ (by omega)]; omega
      have wu : IntKind.u8.wrap ((192 + tp : Nat) : Int) = ((192 + tp : Nat) : Int) := IntWalk.u8_in _ (by omega)
      rw [htp] at q0 h
      have h : R (.ret (.str [UInt8.ofNat (192 + tp), UInt8.ofNat (128 + cp % 64)])) S := h
      clear e hle htp h1 h2 t1 t2 q1 q2 b1 b2 u1 u2
      refine enter Tryz.func76 rfl (by decide +kernel) (by rw [Tryz.ntmps76]; simp) (by rw [Tryz.ntmps76]; decide) (fun hO => ?_); rw [Tryz.ntmps76]
      repeat' first | apply x_seq | apply x_skip | apply x_block | apply x_exit | apply x_ret | apply x_ops_nil | apply p_blk | apply p_exit_it | apply p_exit_hit | apply p_ret_it | apply p_ret_blk | apply p_panic_it | apply p_panic_blk | apply p_end | (apply p_exit_miss; (· rfl)) | (apply x_region; simp only [List.toList_toArray]) | (apply x_step0; (· rfl); (· simp only [go_sem, *]; try rfl); (· rfl); simp only [putA]) | (apply x_callA []; (· simp only [go_sem, *]; try rfl); (· rfl); (· simp only [go_sem, *]; try rfl); (· rfl); (iterate 2 (· simp only [go_sem, *]; try rfl)); (first | apply hck | apply hsz); simp only [afterCall, putA]) | (apply x_panic; (· simp only [go_sem, *]; try rfl); (· rfl); (· simp only [go_sem, *]; try rfl)) | (apply x_step; (iterate 2 (· simp only [go_sem, *]; try rfl)); (· rfl); simp only [putA]) | (apply x_unwanted; (· simp only [go_sem, *]; try rfl); (· rfl); simp only [putA]) | (apply x_condT; (· simp only [go_sem, *]; try rfl)) | (apply x_condF; (· simp only [go_sem, *]; try rfl)) | (apply x_guardS; (· rfl); (fail_if_success (focus (show _ = some true; (· simp only [go_sem, *]; try rfl)))); (· simp only [go_sem, *]; try rfl); all_goals (intro hb; try simp only [Bool.not_eq_true', Bool.not_eq_false'] at hb)) | (apply x_condS; (· simp only [go_sem, *]; try rfl); all_goals (intro hb; try simp only [Bool.not_eq_true', Bool.not_eq_false'] at hb)) | apply x_loop | apply x_lp | fail
      (apply f_ret; iterate 7 (· simp only [go_sem, *, Tryz.results76]; try rfl))
      exact h
    by_cases h3 : cp < 65536
    · have e : putN cp = [224 + cp / 64 / 64, 128 + cp / 64 % 64, 128 + cp % 64] := by unfold putN; rw [if_neg h1, if_neg h2, if_pos h3]; try simp only [Nat.div_div_eq_div_mul, Nat.reduceMul]
      rw [e] at h
      rw [if_neg h1, if_neg h2, if_pos h3] at hsz
      have hsz : ∀ S' (R : AOut → List Blk → Prop), R (.ret (.int .i64 3)) S' → ACall Tryz.prog w0 93 [.int .i64 cp] S' R := hsz
      obtain ⟨tp, htp⟩ : ∃ tp, cp / 64 / 64 = tp := ⟨_, rfl⟩
      have wt : IntKind.i64.wrap (224 + (tp : Int)) = ((224 + tp : Nat) : Int) := by rw [IntWalk.i64_in _ (by omega)]; omega
      have wu : IntKind.u8.wrap ((224 + tp : Nat) : Int) = ((224 + tp : Nat) : Int) := IntWalk.u8_in _ (by omega)
      rw [htp] at q1 h
      have h : R (.ret (.str [UInt8.ofNat (224 + tp), UInt8.ofNat (128 + cp / 64 % 64), UInt8.ofNat (128 + cp % 64)])) S := h
      clear e hle htp h1 h2 h3 t2 q2 b2 u2
      refine enter Tryz.func76 rfl (by decide +kernel) (by rw [Tryz.ntmps76]; simp) (by rw [Tryz.ntmps76]; decide) (fun hO => ?_); rw [Tryz.ntmps76]
      repeat' first | apply x_seq | apply x_skip | apply x_block | apply x_exit | apply x_ret | apply x_ops_nil | apply p_blk | apply p_exit_it | apply p_exit_hit | apply p_ret_it | apply p_ret_blk | apply p_panic_it | apply p_panic_blk | apply p_end | (apply p_exit_miss; (· rfl)) | (apply x_region; simp only [List.toList_toArray]) | (apply x_step0; (· rfl); (· simp only [go_sem, *]; try rfl); (· rfl); simp only [putA]) | (apply x_callA []; (· simp only [go_sem, *]; try rfl); (· rfl); (· simp only [go_sem, *]; try rfl); (· rfl); (iterate 2 (· simp only [go_sem, *]; try rfl)); (first | apply hck | apply hsz); simp only [afterCall, putA]) | (apply x_panic; (· simp only [go_sem, *]; try rfl); (· rfl); (· simp only [go_sem, *]; try rfl)) | (apply x_step; (iterate 2 (· simp only [go_sem, *]; try rfl)); (· rfl); simp only [putA]) | (apply x_unwanted; (· simp only [go_sem, *]; try rfl); (· rfl); simp only [putA]) | (apply x_condT; (· simp only [go_sem, *]; try rfl)) | (apply x_condF; (· simp only [go_sem, *]; try rfl)) | (apply x_guardS; (· rfl); (fail_if_success (focus (show _ = some true; (· simp only [go_sem, *]; try rfl)))); (· simp only [go_sem, *]; try rfl); all_goals (intro hb; try simp only [Bool.not_eq_true', Bool.not_eq_false'] at hb)) | (apply x_condS; (· simp only [go_sem, *]; try rfl); all_goals (intro hb; try simp only [Bool.not_eq_true', Bool.not_eq_false'] at hb)) | apply x_loop | apply x_lp | fail
      (apply f_ret; iterate 7 (· simp only [go_sem, *, Tryz.results76]; try rfl))
      exact h
    have e : putN cp = [240 + cp / 64 / 64 / 64, 128 + cp / 64 / 64 % 64, 128 + cp / 64 % 64, 128 + cp % 64] := by unfold putN; rw [if_neg h1, if_neg h2, if_neg h3]; try simp only [Nat.div_div_eq_div_mul, Nat.reduceMul]
    rw [e] at h
    rw [if_neg h1, if_neg h2, if_neg h3] at hsz
    have hsz : ∀ S' (R : AOut → List Blk → Prop), R (.ret (.int .i64 4)) S' → ACall Tryz.prog w0 93 [.int .i64 cp] S' R := hsz
    obtain ⟨tp, htp⟩ : ∃ tp, cp / 64 / 64 / 64 = tp := ⟨_, rfl⟩
    have wt : IntKind.i64.wrap (240 + (tp : Int)) = ((240 + tp : Nat) : Int) := by rw [IntWalk.i64_in _ (by omega)]; omega
    have wu : IntKind.u8.wrap ((240 + tp : Nat) : Int) = ((240 + tp : Nat) : Int) := IntWalk.u8_in _ (by omega)
    rw [htp] at q2 h
    have h : R (.ret (.str [UInt8.ofNat (240 + tp), UInt8.ofNat (128 + cp / 64 / 64 % 64), UInt8.ofNat (128 + cp / 64 % 64), UInt8.ofNat (128 + cp % 64)])) S := h
    clear e hle htp h1 h2 h3
    refine enter Tryz.func76 rfl (by decide +kernel) (by rw [Tryz.ntmps76]; simp) (by rw [Tryz.ntmps76]; decide) (fun hO => ?_); rw [Tryz.ntmps76]
    repeat' first | apply x_seq | apply x_skip | apply x_block | apply x_exit | apply x_ret | apply x_ops_nil | apply p_blk | apply p_exit_it | apply p_exit_hit | apply p_ret_it | apply p_ret_blk | apply p_panic_it | apply p_panic_blk | apply p_end | (apply p_exit_miss; (· rfl)) | (apply x_region; simp only [List.toList_toArray]) | (apply x_step0; (· rfl); (· simp only [go_sem, *]; try rfl); (· rfl); simp only [putA]) | (apply x_callA []; (· simp only [go_sem, *]; try rfl); (· rfl); (· simp only [go_sem, *]; try rfl); (· rfl); (iterate 2 (· simp only [go_sem, *]; try rfl)); (first | apply hck | apply hsz); simp only [afterCall, putA]) | (apply x_panic; (· simp only [go_sem, *]; try rfl); (· rfl); (· simp only [go_sem, *]; try rfl)) | (apply x_step; (iterate 2 (· simp only [go_sem, *]; try rfl)); (· rfl); simp only [putA]) | (apply x_unwanted; (· simp only [go_sem, *]; try rfl); (· rfl); simp only [putA]) | (apply x_condT; (· simp only [go_sem, *]; try rfl)) | (apply x_condF; (· simp only [go_sem, *]; try rfl)) | (apply x_guardS; (· rfl); (fail_if_success (focus (show _ = some true; (· simp only [go_sem, *]; try rfl)))); (· simp only [go_sem, *]; try rfl); all_goals (intro hb; try simp only [Bool.not_eq_true', Bool.not_eq_false'] at hb)) | (apply x_condS; (· simp only [go_sem, *]; try rfl); all_goals (intro hb; try simp only [Bool.not_eq_true', Bool.not_eq_false'] at hb)) | apply x_loop | apply x_lp | fail
    (apply f_ret; iterate 7 (· simp only [go_sem, *, Tryz.results76]; try rfl))
    exact h
end Go.Proofs.YtcobfilbmfokoaaGreatDoor
namespace Go.Proofs.YtcobfilbmfokoaaGreatDoor
open Go Go.Fen
set_option linter.unusedSimpArgs false
set_option linter.unusedVariables false
attribute [local irreducible] RunX WP ACall AnyP OpA ProtL
set_option maxRecDepth 8000
set_option maxHeartbeats 1000000 in
theorem rText (w0 : World) (S : List Blk) (l : List Nat) (hb : ∀ c ∈ l, c < 4294967296) (hl : l.length ≤ 100000000) (R : AOut → List Blk → Prop) (h : R (.ret (.str (textS l))) S) : ACall Tryz.prog w0 58 [.sval false (l.map Co)] S R := by
  refine enter Tryz.func58 rfl (by decide +kernel) (by rw [Tryz.ntmps58]; simp) (by rw [Tryz.ntmps58]; decide) (fun hO => ?_); rw [Tryz.ntmps58]
  repeat' first | apply x_seq | apply x_skip | apply x_block | apply x_exit | apply x_ret | apply x_ops_nil | apply p_blk | apply p_exit_it | apply p_exit_hit | apply p_ret_it | apply p_ret_blk | apply p_panic_it | apply p_panic_blk | apply p_end | (apply p_exit_miss; (· rfl)) | (apply x_region; simp only [List.toList_toArray]) | (apply x_step0; (· rfl); (· simp only [go_sem, *]; try rfl); (· rfl); simp only [putA]) | (apply x_panic; (· simp only [go_sem, *]; try rfl); (· rfl); (· simp only [go_sem, *]; try rfl)) | (apply x_step; (iterate 2 (· simp only [go_sem, *]; try rfl)); (· rfl); simp only [putA]) | (apply x_unwanted; (· simp only [go_sem, *]; try rfl); (· rfl); simp only [putA]) | (apply x_condT; (· simp only [go_sem, *]; try rfl)) | (apply x_condF; (· simp only [go_sem, *]; try rfl)) | (apply x_guardS; (· rfl); (fail_if_success (focus (show _ = some true; (· simp only [go_sem, *]; try rfl)))); (· simp only [go_sem, *]; try rfl); all_goals (intro hb; try simp only [Bool.not_eq_true', Bool.not_eq_false'] at hb)) | (apply x_condS; (· simp only [go_sem, *]; try rfl); all_goals (intro hb; try simp only [Bool.not_eq_true', Bool.not_eq_false'] at hb)) | fail
  refine x_ind (fun (i : Nat) env S' => i ≤ l.length ∧ env 1000000 = .dfr [] ∧ env 0 = .sval false (l.map Co) ∧ env 3 = .str (textS (l.take i)) ∧ env 4 = .int .i64 (i : Int) ∧ S' = S) (fun i => l.length - i) 0 ?_ ?_
  · exact ⟨Nat.zero_le _, by (simp only [go_sem, *]; try rfl), by (simp only [go_sem, *]; try rfl), by (simp only [go_sem, *]; try rfl), by (simp only [go_sem, *]; try rfl), by (simp only [go_sem, *]; try rfl)⟩
  · rintro i env S' ⟨hi, e0, f0, f3, f4, rfl⟩ IH
    have HI := Lib.hid IH
    have H := Lib.hid h
    clear IH h
    by_cases hlt : i < l.length
    · obtain ⟨c, hx⟩ : ∃ c, l[i]? = some c := ⟨_, List.getElem?_eq_getElem hlt⟩
      have hp := fun S' => rPut w0 S' c (hb c (List.mem_of_getElem? hx))
      have hsucc := textS_succ hx
      have hp1 := putS_len c
      have h1 : decide ((i : Int) < (l.length : Int)) = true := by simpa using hlt
      have hw1 : IntKind.i64.wrap ((i : Int) + 1) = (i : Int) + 1 := IntWalk.i64_in _ (by omega)
      have hlm := textS_len (l.take i)
      have hlt2 : (l.take i).length ≤ i := List.length_take_le _ _
      generalize textS (l.take i) = tx at f3 hsucc hlm
      generalize putS c = pc at hp hsucc hp1
      have hbl : tx.length + pc.length ≤ 9223372036854775807 := by omega
      have Hlt := Lib.hid hlt
      have Hsucc := Lib.hid hsucc
      clear hb hlt hi hl hlm hlt2 hp1 hsucc
      repeat' first | apply x_seq | apply x_skip | apply x_block | apply x_exit | apply x_ret | apply x_ops_nil | apply p_blk | apply p_exit_it | apply p_exit_hit | apply p_ret_it | apply p_ret_blk | apply p_panic_it | apply p_panic_blk | apply p_end | (apply p_exit_miss; (· rfl)) | (apply x_region; simp only [List.toList_toArray]) | (apply x_step0; (· rfl); (· simp only [go_sem, *, Co]; try rfl); (· rfl); simp only [putA]) | (apply x_callA []; (· simp only [go_sem, *, Co]; try rfl); (· rfl); (· simp only [go_sem, *, Co]; try rfl); (· rfl); (iterate 2 (· simp only [go_sem, *, Co]; try rfl)); (first | apply hp); simp only [afterCall, putA]) | (apply x_panic; (· simp only [go_sem, *, Co]; try rfl); (· rfl); (· simp only [go_sem, *, Co]; try rfl)) | (apply x_step; (iterate 2 (· simp only [go_sem, *, Co]; try rfl)); (· rfl); simp only [putA]) | (apply x_unwanted; (· simp only [go_sem, *, Co]; try rfl); (· rfl); simp only [putA]) | (apply x_condT; (· simp only [go_sem, *, Co]; try rfl)) | (apply x_condF; (· simp only [go_sem, *, Co]; try rfl)) | (apply x_guardS; (· rfl); (fail_if_success (focus (show _ = some true; (· simp only [go_sem, *, Co]; try rfl)))); (· simp only [go_sem, *, Co]; try rfl); all_goals (intro hb; try simp only [Bool.not_eq_true', Bool.not_eq_false'] at hb)) | (apply x_condS; (· simp only [go_sem, *, Co]; try rfl); all_goals (intro hb; try simp only [Bool.not_eq_true', Bool.not_eq_false'] at hb)) | fail
      refine HI.out (i + 1) _ _ (by have := Hlt.out; omega) ⟨Hlt.out, ?_, ?_, ?_, ?_, ?_⟩
      · (simp only [go_sem, *]; try rfl)
      · (simp only [go_sem, *]; try rfl)
      · rw [Hsucc.out]; (simp only [go_sem, *]; try rfl)
      · (simp only [go_sem, *]; try rfl)
      · (simp only [go_sem, *]; try rfl)
    · have hie : i = l.length := by omega
      subst hie
      rw [List.take_length] at f3
      have h1 : decide ((l.length : Int) < (l.length : Int)) = false := by simp
      clear hb hlt hi hl
      have h := H.out
      repeat' first | apply x_seq | apply x_skip | apply x_block | apply x_exit | apply x_ret | apply x_ops_nil | apply p_blk | apply p_exit_it | apply p_exit_hit | apply p_ret_it | apply p_ret_blk | apply p_panic_it | apply p_panic_blk | apply p_end | (apply p_exit_miss; (· rfl)) | (apply x_region; simp only [List.toList_toArray]) | (apply x_step0; (· rfl); (· simp only [go_sem, *]; try rfl); (· rfl); simp only [putA]) | (apply x_panic; (· simp only [go_sem, *]; try rfl); (· rfl); (· simp only [go_sem, *]; try rfl)) | (apply x_step; (iterate 2 (· simp only [go_sem, *]; try rfl)); (· rfl); simp only [putA]) | (apply x_unwanted; (· simp only [go_sem, *]; try rfl); (· rfl); simp only [putA]) | (apply x_condT; (· simp only [go_sem, *]; try rfl)) | (apply x_condF; (· simp only [go_sem, *]; try rfl)) | (apply x_guardS; (· rfl); (fail_if_success (focus (show _ = some true; (· simp only [go_sem, *]; try rfl)))); (· simp only [go_sem, *]; try rfl); all_goals (intro hb; try simp only [Bool.not_eq_true', Bool.not_eq_false'] at hb)) | (apply x_condS; (· simp only [go_sem, *]; try rfl); all_goals (intro hb; try simp only [Bool.not_eq_true', Bool.not_eq_false'] at hb)) | fail
      (apply f_ret; iterate 7 (· simp only [go_sem, *, Tryz.results58]; try rfl))
      exact h
end Go.Proofs.YtcobfilbmfokoaaGreatDoor
namespace Go.Proofs.YtcobfilbmfokoaaGreatDoor
open Go Go.Fen
set_option linter.unusedSimpArgs false
set_option linter.unusedVariables false
attribute [local irreducible] RunX WP ACall AnyP OpA ProtL
set_option maxRecDepth 8000
structure Cm where
  kind : Int
  n : Int
  m : Int
  text : List UInt8
  deriving DecidableEq
structure Fm where
  kw : List UInt8
  words : List (List UInt8)
  number : Bool
  index : Bool
  text : Bool
  lo : Int
  hi : Int
  mx : Int
  name : Bool
  deriving DecidableEq
def waysL : List (List UInt8) := [[117, 112], [100, 111, 119, 110], [114, 105, 103, 104, 116], [108, 101, 102, 116]]
def formsL : List (Int × Fm) := [
  (1, ⟨[115, 112, 108, 105, 116], [[114, 105, 103, 104, 116], [100, 111, 119, 110]], false, false, false, 0, 0, 0, false⟩),
  (2, ⟨[107, 105, 108, 108], [], false, false, false, 0, 0, 0, false⟩),
  (3, ⟨[115, 101, 108, 101, 99, 116], waysL, false, false, false, 0, 0, 0, false⟩),
  (4, ⟨[110, 101, 120, 116, 45, 112, 97, 110, 101], [], false, false, false, 0, 0, 0, false⟩),
  (5, ⟨[115, 119, 97, 112], [], false, false, false, 0, 0, 0, false⟩),
  (6, ⟨[114, 101, 115, 105, 122, 101], waysL, true, false, false, 1, 99, 0, false⟩),
  (7, ⟨[122, 111, 111, 109], [], false, false, false, 0, 0, 0, false⟩),
  (8, ⟨[101, 118, 101, 110], [], false, false, false, 0, 0, 0, false⟩),
  (9, ⟨[115, 99, 114, 111, 108, 108], [[98, 97, 99, 107], [102, 111, 114, 119, 97, 114, 100]], true, false, false, 1, 100, 0, false⟩),
  (10, ⟨[115, 101, 110, 100], [], false, false, true, 0, 0, 200, false⟩),
  (11, ⟨[114, 101, 110, 97, 109, 101], [], false, false, true, 0, 0, 40, true⟩),
  (12, ⟨[110, 101, 119, 45, 119, 105, 110, 100, 111, 119], [], false, false, true, 0, 0, 40, true⟩),
  (13, ⟨[119, 105, 110, 100, 111, 119], [], false, true, false, 0, 9, 0, false⟩),
  (14, ⟨[110, 101, 120, 116, 45, 119, 105, 110, 100, 111, 119], [], false, false, false, 0, 0, 0, false⟩),
  (15, ⟨[112, 114, 101, 118, 105, 111, 117, 115, 45, 119, 105, 110, 100, 111, 119], [], false, false, false, 0, 0, 0, false⟩),
  (16, ⟨[100, 101, 116, 97, 99, 104], [], false, false, false, 0, 0, 0, false⟩)]
def fmOf (k : Int) : Option Fm := formsL.lookup k
def nameB (t : List UInt8) : Bool := nameU (t.map UInt8.toNat)
def validB (f : Fm) (c : Cm) : Bool :=
  (if f.index then decide (f.lo ≤ c.n) && decide (c.n ≤ f.hi)
   else if f.number then (decide (f.words = []) || (decide (0 ≤ c.n) && decide (c.n < f.words.length))) && (decide (f.lo ≤ c.m) && decide (c.m ≤ f.hi))
   else if f.text then decide ((c.text.length : Int) ≤ f.mx) && (!f.name || nameB c.text)
   else (decide (f.words = []) || (decide (0 ≤ c.n) && decide (c.n < f.words.length)))) &&
  decide (c = ⟨c.kind, if f.words ≠ [] ∨ f.index = true then c.n else 0, if f.index = false ∧ f.number = true then c.m else 0, if f.index = false ∧ f.number = false ∧ f.text = true then c.text else []⟩)
def checkC (c : Cm) : Bool := match fmOf c.kind with
  | none => false
  | some f => validB f c
def escC (c : UInt8) : List UInt8 := if c.toNat = 34 ∨ c.toNat = 92 then [92, c] else if 32 ≤ c.toNat ∧ c.toNat ≤ 126 then [c] else [92, 120, hexC (c.toNat / 16), hexC (c.toNat % 16)]
def quoteC (t : List UInt8) : List UInt8 := 34 :: (t.flatMap escC ++ [34])
def partsC (c : Cm) : List (List UInt8) := match fmOf c.kind with
  | none => []
  | some f => f.kw :: ((if f.words = [] then [] else [f.words.getD c.n.toNat []]) ++ (if f.index then [Lib.itoa c.n] else if f.number then [Lib.itoa c.m] else if f.text then [quoteC c.text] else []))
def joinC : List (List UInt8) → List UInt8
  | [] => []
  | [p] => p
  | p :: q :: r => p ++ 32 :: joinC (q :: r)
def printC (c : Cm) : List UInt8 := joinC (partsC c)
def skipC (s : List UInt8) : List UInt8 := s.dropWhile (fun b => b == 32)
def wordC (s : List UInt8) : List UInt8 × List UInt8 := ((skipC s).takeWhile (fun b => b != 32), (skipC s).dropWhile (fun b => b != 32))
def digC (b : UInt8) : Bool := decide (48 ≤ b.toNat) && decide (b.toNat ≤ 57)
def numC (w : List UInt8) : Option Int := if w = [] ∨ 3 < w.length ∨ w.all digC = false then none else some (w.foldl (fun n b => n * 10 + ((b.toNat : Int) - 48)) 0)
def unqC : List UInt8 → List UInt8 → Option (List UInt8 × List UInt8)
  | _, [] => none
  | acc, c :: s =>
    if c.toNat = 34 then some (acc, s) else if ¬ c.toNat = 92 then (if 32 ≤ c.toNat ∧ c.toNat ≤ 126 then unqC (acc ++ [c]) s else none) else
      match s with
      | [] => none
      | d :: s2 => if d.toNat = 34 ∨ d.toNat = 92 then unqC (acc ++ [d]) s2 else if d.toNat = 120 then
        (match s2 with
        | b1 :: b2 :: s3 => (match hexV b1 b2 with
          | some v => unqC (acc ++ [UInt8.ofNat v]) s3
          | none => none)
        | _ => none) else none
def quoC (s : List UInt8) : Option (List UInt8 × List UInt8) := match skipC s with
  | [] => none
  | c :: r => if c.toNat = 34 then unqC [] r else none
def idxC (l : List (List UInt8)) (w : List UInt8) : Option Nat := l.findIdx? (fun x => x == w)
def wordsC (f : Fm) (s : List UInt8) : Option (Int × List UInt8) := if f.words = [] then some (0, s) else (idxC f.words (wordC s).1).map fun i => ((i : Int), (wordC s).2)
def argsC (k : Int) (f : Fm) (s : List UInt8) : Option Cm := match wordsC f s with
  | none => none
  | some (n, s1) =>
    match (if f.index then (numC (wordC s1).1).map fun v => (Cm.mk k v 0 [], (wordC s1).2)
      else if f.number then (numC (wordC s1).1).map fun v => (Cm.mk k n v [], (wordC s1).2)
      else if f.text = true then (if k = 12 ∧ skipC s1 = [] then some (Cm.mk k n 0 [], []) else (quoC s1).map fun q => (Cm.mk k n 0 q.1, q.2))
      else some (Cm.mk k n 0 [], s1)) with
    | none => none
    | some (c, s2) => if skipC s2 = [] then some c else none
def keyC (w : List UInt8) : Option (Int × Fm) := formsL.find? (fun e => e.2.kw == w)
def readC (s : List UInt8) : Option Cm := match keyC (wordC s).1 with
  | none => none
  | some (k, f) => argsC k f (wordC s).2
def zeroC : Cm := ⟨0, 0, 0, []⟩
def parseC (s : List UInt8) : Cm × Int := match readC s with
  | none => (zeroC, 6)
  | some c => if checkC c then (c, 0) else (zeroC, 500)
def sp (n : Nat) : List UInt8 := List.replicate n 32
theorem skip_sp (n : Nat) (s : List UInt8) : skipC (sp n ++ s) = skipC s := by
  induction n with
  | zero => rfl
  | succ n ih =>
    unfold sp at ih ⊢
    rw [List.replicate_succ, List.cons_append]
    unfold skipC at ih ⊢
    rw [List.dropWhile_cons_of_pos (by rfl)]
    exact ih
theorem skip_nil (n : Nat) : skipC (sp n) = [] := by
  have := skip_sp n []
  rw [List.append_nil] at this
  rw [this]; rfl
def head32 (s : List UInt8) : Prop := ∀ b r, s = b :: r → b = 32
theorem take_all {w s : List UInt8} (hw : ∀ b ∈ w, b ≠ 32) (hs : head32 s) : (w ++ s).takeWhile (fun b => b != 32) = w ∧ (w ++ s).dropWhile (fun b => b != 32) = s := by
  induction w with
  | nil =>
    cases s with
    | nil => exact ⟨rfl, rfl⟩
    | cons b r => rw [hs b r rfl]; exact ⟨rfl, rfl⟩
  | cons c w ih =>
    have hc : (c != 32) = true := by simpa using hw c (by simp)
    obtain ⟨h1, h2⟩ := ih (fun b hb => hw b (List.mem_cons_of_mem _ hb))
    simp only [List.cons_append]
    rw [List.takeWhile_cons, List.dropWhile_cons, if_pos hc, if_pos hc, h1, h2]
    exact ⟨rfl, rfl⟩
theorem word_sp {n : Nat} {w s : List UInt8} (h0 : w ≠ []) (hw : ∀ b ∈ w, b ≠ 32) (hs : head32 s) : wordC (sp n ++ (w ++ s)) = (w, s) := by
  have e : skipC (w ++ s) = w ++ s := by
    cases w with
    | nil => exact absurd rfl h0
    | cons c w =>
      unfold skipC
      rw [List.cons_append, List.dropWhile_cons_of_neg]
      simpa using hw c (by simp)
  unfold wordC
  rw [skip_sp, e, (take_all hw hs).1, (take_all hw hs).2]
theorem h32_sp (n : Nat) : head32 (sp n) := by
  intro b r h
  cases n with
  | zero => cases h
  | succ n =>
    unfold sp at h
    rw [List.replicate_succ] at h
    cases h; rfl
theorem h32_cons (n : Nat) (s : List UInt8) : head32 (sp (n + 1) ++ s) := by
  intro b r h
  unfold sp at h
  rw [List.replicate_succ] at h
  cases h; rfl
def noSp (w : List UInt8) : Bool := decide (w ≠ []) && w.all fun b => b != 32
def goodF (e : Int × Fm) : Bool :=
  noSp e.2.kw && (decide (keyC e.2.kw = some e) && (decide (fmOf e.1 = some e.2) && ((List.range e.2.words.length).all (fun i => noSp (e.2.words.getD i []) && decide (idxC e.2.words (e.2.words.getD i []) = some i)) &&
   ((!e.2.index || (decide (e.2.words = []) && (decide (0 ≤ e.2.lo) && (decide (e.2.hi ≤ 200) && (!e.2.number && !e.2.text))))) &&
   ((!e.2.number || (decide (0 ≤ e.2.lo) && (decide (e.2.hi ≤ 200) && !e.2.text))) && (!e.2.text || decide (e.2.words = [])))))))
theorem forms_good : formsL.all goodF = true := by decide +kernel
theorem lookup_mem {α β : Type} [BEq α] [LawfulBEq α] {k : α} {v : β} : ∀ {l : List (α × β)}, l.lookup k = some v → (k, v) ∈ l
  | [], h => by cases h
  | (a, b) :: l, h => by
    rw [List.lookup_cons] at h
    split at h
    · next he => cases h; rw [eq_of_beq he]; exact List.mem_cons_self ..
    · exact List.mem_cons_of_mem _ (lookup_mem h)
theorem num_itoa : ∀ v, v < 201 → numC (Lib.decDigits v) = some (v : Int) ∧ noSp (Lib.decDigits v) = true := by
  have h : (List.range 201).all (fun v => decide (numC (Lib.decDigits v) = some (v : Int)) && noSp (Lib.decDigits v)) = true := by decide +kernel
  intro v hv
  have := List.all_eq_true.1 h v (List.mem_range.2 hv)
  simpa using this
theorem itoa_num {n : Int} (h0 : 0 ≤ n) (h1 : n ≤ 200) : numC (Lib.itoa n) = some n ∧ noSp (Lib.itoa n) = true := by
  obtain ⟨u, rfl⟩ : ∃ u : Nat, n = u := ⟨n.toNat, by omega⟩
  rw [Lib.itoa_nonneg]
  exact num_itoa u (by omega)
theorem noSp_spec {w : List UInt8} (h : noSp w = true) : w ≠ [] ∧ ∀ b ∈ w, b ≠ 32 := by
  simpa [noSp] using h
theorem word_no {n : Nat} {w s : List UInt8} (h : noSp w = true) (hs : head32 s) : wordC (sp n ++ (w ++ s)) = (w, s) := word_sp (noSp_spec h).1 (noSp_spec h).2 hs
theorem hex_fin : ∀ n, n < 256 → hexV (hexC (n / 16)) (hexC (n % 16)) = some n := by decide +kernel
theorem unqC_cons (acc : List UInt8) (c : UInt8) (s : List UInt8) : unqC acc (c :: s) =
    if c.toNat = 34 then some (acc, s) else if ¬ c.toNat = 92 then (if 32 ≤ c.toNat ∧ c.toNat ≤ 126 then unqC (acc ++ [c]) s else none) else
      match s with
      | [] => none
      | d :: s2 => if d.toNat = 34 ∨ d.toNat = 92 then unqC (acc ++ [d]) s2 else if d.toNat = 120 then
        (match s2 with
        | b1 :: b2 :: s3 => (match hexV b1 b2 with
          | some v => unqC (acc ++ [UInt8.ofNat v]) s3
          | none => none)
        | _ => none) else none := by
  rw [unqC.eq_def]
  all_goals rfl
theorem unq_esc (acc : List UInt8) (c : UInt8) (rest : List UInt8) : unqC acc (escC c ++ rest) = unqC (acc ++ [c]) rest := by
  have h92 : (92 : UInt8).toNat = 92 := rfl
  have h120 : (120 : UInt8).toNat = 120 := rfl
  unfold escC
  split
  · next h =>
    simp only [List.cons_append, List.nil_append]
    rw [unqC_cons, if_neg (by rw [h92]; omega), if_neg (by rw [h92]; omega)]
    simp only
    rw [if_pos h]
  · split
    · next h1 h2 =>
      simp only [List.cons_append, List.nil_append]
      rw [unqC_cons, if_neg (by omega), if_pos (by omega), if_pos h2]
    · simp only [List.cons_append, List.nil_append]
      rw [unqC_cons, if_neg (by rw [h92]; omega), if_neg (by rw [h92]; omega)]
      simp only
      rw [if_neg (by rw [h120]; omega), if_pos h120, hex_fin c.toNat c.toNat_lt]
      simp only [UInt8.ofNat_toNat]
theorem unq_all : ∀ (t acc s : List UInt8), unqC acc (t.flatMap escC ++ 34 :: s) = some (acc ++ t, s)
  | [], acc, s => by
    simp only [List.flatMap_nil, List.nil_append, List.append_nil]
    rw [unqC_cons, if_pos (by rfl)]
  | c :: t, acc, s => by
    rw [List.flatMap_cons, List.append_assoc, unq_esc, unq_all t]
    simp
theorem quo_quote (n : Nat) (t s : List UInt8) : quoC (sp n ++ (quoteC t ++ s)) = some (t, s) := by
  have e : skipC (quoteC t ++ s) = 34 :: (t.flatMap escC ++ 34 :: s) := by
    unfold quoteC skipC
    rw [List.cons_append, List.dropWhile_cons, if_neg (by decide)]
    simp
  unfold quoC
  rw [skip_sp, e]
  simp only
  rw [if_pos (by rfl), unq_all]
  rfl
def spreadC (b : Nat) : List (List UInt8) → List UInt8
  | [] => []
  | [p] => p
  | p :: q :: r => p ++ (sp (b + 1) ++ joinC (q :: r))
theorem spread_zero (l : List (List UInt8)) : spreadC 0 l = joinC l := by
  match l with
  | [] => rfl
  | [p] => rfl
  | p :: q :: r => rfl
theorem read_key {c : Cm} {f : Fm} (hk : noSp f.kw = true) (hf : keyC f.kw = some (c.kind, f)) (a : Nat) {X : List UInt8} (hX : head32 X) : readC (sp a ++ (f.kw ++ X)) = argsC c.kind f X := by
  unfold readC
  rw [word_no hk hX]
  simp only [hf]
theorem skip_quote (n : Nat) (t z : List UInt8) : skipC (sp n ++ (quoteC t ++ z)) ≠ [] := by
  rw [skip_sp]
  unfold quoteC skipC
  rw [List.cons_append, List.dropWhile_cons, if_neg (by decide)]
  simp
theorem read_tail {c : Cm} (h : checkC c = true) (a b : Nat) {z : List UInt8} (hz : head32 z) : readC (sp a ++ (spreadC b (partsC c) ++ z)) = if skipC z = [] then some c else none := by
  unfold checkC at h
  cases hf : fmOf c.kind with
  | none => rw [hf] at h; cases h
  | some f =>
    rw [hf] at h
    have hg := List.all_eq_true.1 forms_good _ (lookup_mem hf)
    simp only [goodF, Bool.and_eq_true, decide_eq_true_eq, Bool.or_eq_true, Bool.not_eq_true', List.all_eq_true, List.mem_range] at hg
    obtain ⟨g1, g2, _, g4, g5, g6, g7⟩ := hg
    simp only [validB, Bool.and_eq_true, decide_eq_true_eq] at h
    obtain ⟨v1, v2⟩ := h
    unfold partsC
    rw [hf]
    simp only
    obtain ⟨k, n, m, t⟩ := c
    simp only at hf g2 v1 v2 ⊢
    simp only [Cm.mk.injEq, true_and] at v2
    obtain ⟨e1, e2, e3⟩ := v2
    have key := fun X hX => read_key (c := ⟨k, n, m, t⟩) g1 g2 a (X := X) hX
    simp only at key
    by_cases hw : f.words = []
    · rw [if_pos hw]
      have hwc : ∀ s, wordsC f s = some (0, s) := fun s => by unfold wordsC; rw [if_pos hw]
      cases hi : f.index with
      | true =>
        simp only [hi, if_true, List.nil_append, spreadC, joinC, List.append_assoc] at v1 e1 e2 e3 ⊢
        simp only [hi, Bool.true_eq_false, false_or] at g5
        simp only [Bool.and_eq_true, decide_eq_true_eq] at v1
        obtain ⟨hn1, hn2⟩ := itoa_num (n := n) (by omega) (by omega)
        rw [key _ (h32_cons _ _)]
        unfold argsC
        simp only [hwc, hi, if_true]
        rw [word_no hn2 hz, hn1]
        simp [e2, e3]
      | false =>
        cases hu : f.number with
        | true =>
          simp only [hi, hu, Bool.false_eq_true, if_false, if_true, List.nil_append, spreadC, joinC, List.append_assoc] at v1 e1 e2 e3 ⊢
          simp only [hu, Bool.true_eq_false, false_or] at g6
          simp only [Bool.and_eq_true, decide_eq_true_eq] at v1
          obtain ⟨hn1, hn2⟩ := itoa_num (n := m) (by omega) (by omega)
          rw [key _ (h32_cons _ _)]
          unfold argsC
          simp only [hwc, hi, hu, Bool.false_eq_true, if_false, if_true]
          rw [word_no hn2 hz, hn1]
          simp [hw] at e1
          simp [e1, e3]
        | false =>
          cases ht : f.text with
          | true =>
            simp only [hi, hu, ht, Bool.false_eq_true, if_false, if_true, List.nil_append, spreadC, joinC, List.append_assoc] at v1 e1 e2 e3 ⊢
            rw [key _ (h32_cons _ _)]
            unfold argsC
            simp only [hwc, hi, hu, ht, Bool.false_eq_true, if_false, if_true]
            rw [if_neg (fun hh => skip_quote _ _ _ hh.2), quo_quote]
            simp [hw] at e1 e2
            simp [e1, e2]
          | false =>
            simp only [hi, hu, ht, Bool.false_eq_true, if_false, List.append_nil, spreadC] at v1 e1 e2 e3 ⊢
            rw [key _ hz]
            unfold argsC
            simp only [hwc, hi, hu, ht, Bool.false_eq_true, if_false]
            simp [hw] at e1 e2 e3
            simp [e1, e2, e3]
    · rw [if_neg hw]
      have hi : f.index = false := by
        cases hh : f.index with
        | false => rfl
        | true =>
          simp only [hh, Bool.true_eq_false, false_or] at g5
          exact absurd g5.1 hw
      have ht : f.text = false := by
        cases hh : f.text with
        | false => rfl
        | true =>
          simp only [hh, Bool.true_eq_false, false_or] at g7
          exact absurd g7 hw
      have hn : 0 ≤ n ∧ n < f.words.length := by
        cases hu : f.number with
        | true =>
          simp only [hi, hu, hw, Bool.false_eq_true, if_false, if_true, decide_false, false_or, Bool.and_eq_true, decide_eq_true_eq, Bool.or_eq_true] at v1
          exact v1.1
        | false =>
          simp only [hi, hu, ht, hw, Bool.false_eq_true, if_false, decide_false, false_or, Bool.and_eq_true, decide_eq_true_eq, Bool.or_eq_true] at v1
          exact v1
      obtain ⟨w1, w2⟩ := g4 n.toNat (by omega)
      obtain ⟨w, hww⟩ : ∃ w, f.words.getD n.toNat [] = w := ⟨_, rfl⟩
      rw [hww] at w1 w2 ⊢
      have hwc : ∀ j s, head32 s → wordsC f (sp j ++ (w ++ s)) = some (n, s) := fun j s hs => by
        unfold wordsC
        rw [if_neg hw, word_no w1 hs, w2]
        simp; omega
      cases hu : f.number with
      | true =>
        simp only [hi, hu, Bool.false_eq_true, if_false, if_true, List.cons_append, List.nil_append, spreadC, joinC, List.append_assoc] at v1 e1 e2 e3 ⊢
        simp only [hu, Bool.true_eq_false, false_or] at g6
        simp only [Bool.and_eq_true, decide_eq_true_eq, Bool.or_eq_true] at v1
        obtain ⟨hn1, hn2⟩ := itoa_num (n := m) (by omega) (by omega)
        rw [key _ (h32_cons _ _)]
        unfold argsC
        have h1 : head32 (32 :: (Lib.itoa m ++ z)) := by intro b r e; cases e; rfl
        rw [hwc _ _ h1]
        simp only [hi, hu, Bool.false_eq_true, if_false, if_true]
        rw [show (32 : UInt8) :: (Lib.itoa m ++ z) = sp 1 ++ (Lib.itoa m ++ z) from rfl, word_no hn2 hz, hn1]
        simp [e3]
      | false =>
        simp only [hi, hu, ht, Bool.false_eq_true, if_false, List.cons_append, List.append_nil, List.nil_append, spreadC, joinC, List.append_assoc] at v1 e1 e2 e3 ⊢
        rw [key _ (h32_cons _ _)]
        unfold argsC
        rw [hwc _ _ hz]
        simp only [hi, hu, ht, Bool.false_eq_true, if_false]
        simp at e2 e3
        simp [e2, e3]
theorem read_spaces {c : Cm} (h : checkC c = true) (a b k : Nat) : readC (sp a ++ (spreadC b (partsC c) ++ sp k)) = some c := by
  rw [read_tail h a b (h32_sp k), skip_nil]
  simp
theorem read_more {c : Cm} (h : checkC c = true) : readC (printC c ++ [32, 120]) = none := by
  have := read_tail h 0 0 (z := [32, 120]) (fun b r e => by cases e; rfl)
  rw [spread_zero] at this
  rw [show printC c ++ [32, 120] = sp 0 ++ (joinC (partsC c) ++ [32, 120]) from rfl, this, if_neg (by decide)]
end Go.Proofs.YtcobfilbmfokoaaGreatDoor
namespace Go.Proofs.YtcobfilbmfokoaaGreatDoor
open Go Go.Fen
set_option linter.unusedSimpArgs false
set_option linter.unusedVariables false
attribute [local irreducible] RunX WP ACall AnyP OpA ProtL
set_option maxRecDepth 8000
def okc (c : Nat) : Bool := decide (32 ≤ c) && !(decide (127 ≤ c) && decide (c ≤ 159))
theorem textS_U (l : List Nat) : textS l = (textU l).map UInt8.ofNat := by
  unfold textS textU putS
  induction l with
  | nil => rfl
  | cons c l ih => rw [List.flatMap_cons, List.flatMap_cons, List.map_append, ih]
theorem textU_byte (l : List Nat) : ∀ x ∈ textU l, x < 256 := by
  intro x hx
  obtain ⟨c, _, hc⟩ := List.mem_flatMap.1 hx
  exact putU_byte c x hc
theorem ofNat_inj {l : List Nat} {s : List UInt8} (hl : ∀ x ∈ l, x < 256) : l.map UInt8.ofNat = s ↔ l = s.map UInt8.toNat := by
  constructor
  · rintro rfl
    rw [List.map_map]
    have : ∀ x ∈ l, (UInt8.toNat ∘ UInt8.ofNat) x = x := by
      intro x hx
      have := hl x hx
      simp only [Function.comp, UInt8.toNat_ofNat']
      omega
    exact (List.map_id'' (f := UInt8.toNat ∘ UInt8.ofNat) (l := l) · |>.symm) |> fun h => by
      rw [List.map_congr_left this]; simp
  · rintro rfl
    rw [List.map_map]
    have : (UInt8.ofNat ∘ UInt8.toNat) = id := by funext x; simp
    rw [this]; simp
theorem nameB_eq (s : List UInt8) : nameB s = ((codesB s).all okc && decide (textS (codesB s) = s)) := by
  unfold nameB nameU
  have e : (textU (codesU (s.map UInt8.toNat)) = s.map UInt8.toNat) = (textS (codesB s) = s) := by
    rw [textS_U, ofNat_inj (textU_byte _)]
    rfl
  simp only [e]
  rfl
set_option maxHeartbeats 4000000 in
theorem cName (w0 : World) (S : List Blk) (s : List UInt8) (hs : s.length ≤ 10000000) (R : AOut → List Blk → Prop) (h : R (.ret (.bool (nameB s))) S) : ACall Tryz.prog w0 43 [.str s] S R := by
  rw [nameB_eq] at h
  have hco := fun S' => uCodes w0 S' s (by omega)
  have hcl := codesB_lt s
  have hte := fun S' => uText w0 S' (codesB s) (fun c hc => by have := hcl.1 c hc; omega) (by omega)
  have hll : (codesB s).length ≤ 100000000 := by omega
  generalize codesB s = l at h hco hte hll
  have Hte := Lib.hid hte
  clear hcl hte
  refine enter Tryz.func43 rfl (by decide +kernel) (by rw [Tryz.ntmps43]; simp) (by rw [Tryz.ntmps43]; decide) (fun hO => ?_); rw [Tryz.ntmps43]
  repeat' first | apply x_seq | apply x_skip | apply x_block | apply x_exit | apply x_ret | apply x_ops_nil | apply p_blk | apply p_exit_it | apply p_exit_hit | apply p_ret_it | apply p_ret_blk | apply p_panic_it | apply p_panic_blk | apply p_end | (apply p_exit_miss; (· rfl)) | (apply x_region; simp only [List.toList_toArray]) | (apply x_step0; (· rfl); (· simp only [go_sem, *]; try rfl); (· rfl); simp only [putA]) | (apply x_callA []; (· simp only [go_sem, *]; try rfl); (· rfl); (· simp only [go_sem, *]; try rfl); (· rfl); (iterate 2 (· simp only [go_sem, *]; try rfl)); (first | apply hco); simp only [afterCall, putA]) | (apply x_panic; (· simp only [go_sem, *]; try rfl); (· rfl); (· simp only [go_sem, *]; try rfl)) | (apply x_step; (iterate 2 (· simp only [go_sem, *]; try rfl)); (· rfl); simp only [putA]) | (apply x_unwanted; (· simp only [go_sem, *]; try rfl); (· rfl); simp only [putA]) | (apply x_condT; (· simp only [go_sem, *]; try rfl)) | (apply x_condF; (· simp only [go_sem, *]; try rfl)) | (apply x_guardS; (· rfl); (fail_if_success (focus (show _ = some true; (· simp only [go_sem, *]; try rfl)))); (· simp only [go_sem, *]; try rfl); all_goals (intro hb; try simp only [Bool.not_eq_true', Bool.not_eq_false'] at hb)) | (apply x_condS; (· simp only [go_sem, *]; try rfl); all_goals (intro hb; try simp only [Bool.not_eq_true', Bool.not_eq_false'] at hb)) | fail
  refine x_ind (fun (k : Nat) env S' => k ≤ l.length ∧ (∀ j c, j < k → l[j]? = some c → okc c = true) ∧ env 1000000 = .dfr [] ∧ env 0 = .str s ∧ env 3 = .sval false (l.map Co) ∧ env 8 = .sval false (l.map Co) ∧ env 9 = .int .i64 l.length ∧ env 10 = .int .i64 (k : Int) ∧ S' = S) (fun k => l.length - k) 0 ?_ ?_
  · exact ⟨Nat.zero_le _, fun j c hj => absurd hj (by omega), by (simp only [go_sem, *]; try rfl), by (simp only [go_sem, *]; try rfl), by (simp only [go_sem, *]; try rfl), by (simp only [go_sem, *]; try rfl), by (simp only [go_sem, *]; try rfl), by (simp only [go_sem, *]; try rfl), rfl⟩
  · rintro k env S' ⟨hk, hall, e0, f0, e3, e8, e9, e10, rfl⟩ IH
    have HI := Lib.hid IH
    have Hall := Lib.hid hall
    have H := Lib.hid h
    clear IH hall h hco
    by_cases hlt : k < l.length
    · obtain ⟨c, hx⟩ : ∃ c, l[k]? = some c := ⟨_, List.getElem?_eq_getElem hlt⟩
      have h1 : decide ((k : Int) < (l.length : Int)) = true := by simpa using hlt
      have hw : IntKind.i64.wrap ((k : Int) + 1) = (k : Int) + 1 := IntWalk.i64_in _ (by omega)
      have bad : okc c = false → R (.ret (.bool false)) S' := fun hc => by
        have e : l.all okc = false := by
          rw [List.all_eq_false]
          exact ⟨c, List.mem_of_getElem? hx, by simp [hc]⟩
        have := H.out
        rw [e, Bool.false_and] at this
        exact this
      have good : okc c = true → ∀ j d, j < k + 1 → l[j]? = some d → okc d = true := fun hc j d hj hd => by
        by_cases e : j = k
        · rw [e, hx] at hd; cases hd; exact hc
        · exact Hall.out j d (by omega) hd
      have Bad := Lib.hid bad
      have Good := Lib.hid good
      have Hlt := Lib.hid hlt
      clear bad good hlt hk hll
      by_cases q1 : c < 32
      · have d1 : decide ((c : Int) < 32) = true := by simp; omega
        have hc : okc c = false := by unfold okc; rw [decide_eq_false (by omega)]; rfl
        have hb := Bad.out hc
        clear q1 hc
        repeat' first | apply x_seq | apply x_skip | apply x_block | apply x_exit | apply x_ret | apply x_ops_nil | apply p_blk | apply p_exit_it | apply p_exit_hit | apply p_ret_it | apply p_ret_blk | apply p_panic_it | apply p_panic_blk | apply p_end | (apply p_exit_miss; (· rfl)) | (apply x_region; simp only [List.toList_toArray]) | (apply x_step0; (· rfl); (· simp only [go_sem, *, Co]; try rfl); (· rfl); simp only [putA]) | (apply x_panic; (· simp only [go_sem, *, Co]; try rfl); (· rfl); (· simp only [go_sem, *, Co]; try rfl)) | (apply x_step; (iterate 2 (· simp only [go_sem, *, Co]; try rfl)); (· rfl); simp only [putA]) | (apply x_unwanted; (· simp only [go_sem, *, Co]; try rfl); (· rfl); simp only [putA]) | (apply x_condT; (· simp only [go_sem, *, Co]; try rfl)) | (apply x_condF; (· simp only [go_sem, *, Co]; try rfl)) | (apply x_guardS; (· rfl); (fail_if_success (focus (show _ = some true; (· simp only [go_sem, *, Co]; try rfl)))); (· simp only [go_sem, *, Co]; try rfl); all_goals (intro hb; try simp only [Bool.not_eq_true', Bool.not_eq_false'] at hb)) | (apply x_condS; (· simp only [go_sem, *, Co]; try rfl); all_goals (intro hb; try simp only [Bool.not_eq_true', Bool.not_eq_false'] at hb)) | fail
        (apply f_ret; iterate 7 (· simp only [go_sem, *, Tryz.results43]; try rfl))
        exact hb
      have d1 : decide ((c : Int) < 32) = false := by simp; omega
      by_cases q2 : 127 ≤ c
      · have d2 : decide ((127 : Int) ≤ (c : Int)) = true := by simp; omega
        by_cases q3 : c ≤ 159
        · have d3 : decide ((c : Int) ≤ 159) = true := by simp; omega
          have hc : okc c = false := by unfold okc; rw [decide_eq_true q2, decide_eq_true q3]; simp
          have hb := Bad.out hc
          clear q1 q2 q3 hc
          repeat' first | apply x_seq | apply x_skip | apply x_block | apply x_exit | apply x_ret | apply x_ops_nil | apply p_blk | apply p_exit_it | apply p_exit_hit | apply p_ret_it | apply p_ret_blk | apply p_panic_it | apply p_panic_blk | apply p_end | (apply p_exit_miss; (· rfl)) | (apply x_region; simp only [List.toList_toArray]) | (apply x_step0; (· rfl); (· simp only [go_sem, *, Co]; try rfl); (· rfl); simp only [putA]) | (apply x_panic; (· simp only [go_sem, *, Co]; try rfl); (· rfl); (· simp only [go_sem, *, Co]; try rfl)) | (apply x_step; (iterate 2 (· simp only [go_sem, *, Co]; try rfl)); (· rfl); simp only [putA]) | (apply x_unwanted; (· simp only [go_sem, *, Co]; try rfl); (· rfl); simp only [putA]) | (apply x_condT; (· simp only [go_sem, *, Co]; try rfl)) | (apply x_condF; (· simp only [go_sem, *, Co]; try rfl)) | (apply x_guardS; (· rfl); (fail_if_success (focus (show _ = some true; (· simp only [go_sem, *, Co]; try rfl)))); (· simp only [go_sem, *, Co]; try rfl); all_goals (intro hb; try simp only [Bool.not_eq_true', Bool.not_eq_false'] at hb)) | (apply x_condS; (· simp only [go_sem, *, Co]; try rfl); all_goals (intro hb; try simp only [Bool.not_eq_true', Bool.not_eq_false'] at hb)) | fail
          (apply f_ret; iterate 7 (· simp only [go_sem, *, Tryz.results43]; try rfl))
          exact hb
        · have d3 : decide ((c : Int) ≤ 159) = false := by simp; omega
          have hc : okc c = true := by unfold okc; rw [decide_eq_false q3, decide_eq_true (by omega)]; simp
          clear q1 q2 q3
          repeat' first | apply x_seq | apply x_skip | apply x_block | apply x_exit | apply x_ret | apply x_ops_nil | apply p_blk | apply p_exit_it | apply p_exit_hit | apply p_ret_it | apply p_ret_blk | apply p_panic_it | apply p_panic_blk | apply p_end | (apply p_exit_miss; (· rfl)) | (apply x_region; simp only [List.toList_toArray]) | (apply x_step0; (· rfl); (· simp only [go_sem, *, Co]; try rfl); (· rfl); simp only [putA]) | (apply x_panic; (· simp only [go_sem, *, Co]; try rfl); (· rfl); (· simp only [go_sem, *, Co]; try rfl)) | (apply x_step; (iterate 2 (· simp only [go_sem, *, Co]; try rfl)); (· rfl); simp only [putA]) | (apply x_unwanted; (· simp only [go_sem, *, Co]; try rfl); (· rfl); simp only [putA]) | (apply x_condT; (· simp only [go_sem, *, Co]; try rfl)) | (apply x_condF; (· simp only [go_sem, *, Co]; try rfl)) | (apply x_guardS; (· rfl); (fail_if_success (focus (show _ = some true; (· simp only [go_sem, *, Co]; try rfl)))); (· simp only [go_sem, *, Co]; try rfl); all_goals (intro hb; try simp only [Bool.not_eq_true', Bool.not_eq_false'] at hb)) | (apply x_condS; (· simp only [go_sem, *, Co]; try rfl); all_goals (intro hb; try simp only [Bool.not_eq_true', Bool.not_eq_false'] at hb)) | fail
          refine HI.out (k + 1) _ _ (by have := Hlt.out; omega) ⟨Hlt.out, Good.out hc, ?_, ?_, ?_, ?_, ?_, ?_, rfl⟩
          all_goals (simp only [go_sem, *]; try rfl)
      · have d2 : decide ((127 : Int) ≤ (c : Int)) = false := by simp; omega
        have hc : okc c = true := by unfold okc; rw [decide_eq_false q2, decide_eq_true (by omega)]; rfl
        clear q1 q2
        repeat' first | apply x_seq | apply x_skip | apply x_block | apply x_exit | apply x_ret | apply x_ops_nil | apply p_blk | apply p_exit_it | apply p_exit_hit | apply p_ret_it | apply p_ret_blk | apply p_panic_it | apply p_panic_blk | apply p_end | (apply p_exit_miss; (· rfl)) | (apply x_region; simp only [List.toList_toArray]) | (apply x_step0; (· rfl); (· simp only [go_sem, *, Co]; try rfl); (· rfl); simp only [putA]) | (apply x_panic; (· simp only [go_sem, *, Co]; try rfl); (· rfl); (· simp only [go_sem, *, Co]; try rfl)) | (apply x_step; (iterate 2 (· simp only [go_sem, *, Co]; try rfl)); (· rfl); simp only [putA]) | (apply x_unwanted; (· simp only [go_sem, *, Co]; try rfl); (· rfl); simp only [putA]) | (apply x_condT; (· simp only [go_sem, *, Co]; try rfl)) | (apply x_condF; (· simp only [go_sem, *, Co]; try rfl)) | (apply x_guardS; (· rfl); (fail_if_success (focus (show _ = some true; (· simp only [go_sem, *, Co]; try rfl)))); (· simp only [go_sem, *, Co]; try rfl); all_goals (intro hb; try simp only [Bool.not_eq_true', Bool.not_eq_false'] at hb)) | (apply x_condS; (· simp only [go_sem, *, Co]; try rfl); all_goals (intro hb; try simp only [Bool.not_eq_true', Bool.not_eq_false'] at hb)) | fail
        refine HI.out (k + 1) _ _ (by have := Hlt.out; omega) ⟨Hlt.out, Good.out hc, ?_, ?_, ?_, ?_, ?_, ?_, rfl⟩
        all_goals (simp only [go_sem, *]; try rfl)
    · have h1 : decide ((k : Int) < (l.length : Int)) = false := by simpa using hlt
      have e : l.all okc = true := by
        rw [List.all_eq_true]
        intro c hc
        obtain ⟨j, hj⟩ := List.getElem?_of_mem hc
        exact Hall.out j c (by have := (List.getElem?_eq_some_iff.1 hj).1; omega) hj
      have hh := H.out
      rw [e, Bool.true_and] at hh
      have ht := Hte.out
      clear hlt hk e Hall HI hll
      repeat' first | apply x_seq | apply x_skip | apply x_block | apply x_exit | apply x_ret | apply x_ops_nil | apply p_blk | apply p_exit_it | apply p_exit_hit | apply p_ret_it | apply p_ret_blk | apply p_panic_it | apply p_panic_blk | apply p_end | (apply p_exit_miss; (· rfl)) | (apply x_region; simp only [List.toList_toArray]) | (apply x_step0; (· rfl); (· simp only [go_sem, *]; try rfl); (· rfl); simp only [putA]) | (apply x_callA []; (· simp only [go_sem, *]; try rfl); (· rfl); (· simp only [go_sem, *]; try rfl); (· rfl); (iterate 2 (· simp only [go_sem, *]; try rfl)); (first | apply ht); simp only [afterCall, putA]) | (apply x_panic; (· simp only [go_sem, *]; try rfl); (· rfl); (· simp only [go_sem, *]; try rfl)) | (apply x_step; (iterate 2 (· simp only [go_sem, *]; try rfl)); (· rfl); simp only [putA]) | (apply x_unwanted; (· simp only [go_sem, *]; try rfl); (· rfl); simp only [putA]) | (apply x_condT; (· simp only [go_sem, *]; try rfl)) | (apply x_condF; (· simp only [go_sem, *]; try rfl)) | (apply x_guardS; (· rfl); (fail_if_success (focus (show _ = some true; (· simp only [go_sem, *]; try rfl)))); (· simp only [go_sem, *]; try rfl); all_goals (intro hb; try simp only [Bool.not_eq_true', Bool.not_eq_false'] at hb)) | (apply x_condS; (· simp only [go_sem, *]; try rfl); all_goals (intro hb; try simp only [Bool.not_eq_true', Bool.not_eq_false'] at hb)) | fail
      (apply f_ret; iterate 7 (· simp only [go_sem, *, Tryz.results43]; try rfl))
      rw [show (textS l == s) = decide (textS l = s) by rw [Bool.eq_iff_iff]; simp]
      exact hh
end Go.Proofs.YtcobfilbmfokoaaGreatDoor
namespace Go.Proofs.YtcobfilbmfokoaaGreatDoor
open Go Go.Fen
set_option linter.unusedSimpArgs false
set_option linter.unusedVariables false
attribute [local irreducible] RunX WP ACall AnyP OpA ProtL
set_option maxRecDepth 8000
set_option maxHeartbeats 4000000 in
theorem rName (w0 : World) (S : List Blk) (s : List UInt8) (hs : s.length ≤ 10000000) (R : AOut → List Blk → Prop) (h : R (.ret (.bool (decide (s.length ≤ 40) && nameB s))) S) : ACall Tryz.prog w0 41 [.str s] S R := by
  rw [nameB_eq] at h
  by_cases h40 : s.length ≤ 40
  case neg =>
    rw [decide_eq_false h40, Bool.false_and] at h
    have d0 : decide ((40 : Int) < (s.length : Int)) = true := by simp; omega
    clear h40 hs
    refine enter Tryz.func41 rfl (by decide +kernel) (by rw [Tryz.ntmps41]; simp) (by rw [Tryz.ntmps41]; decide) (fun hO => ?_); rw [Tryz.ntmps41]
    repeat' first | apply x_seq | apply x_skip | apply x_block | apply x_exit | apply x_ret | apply x_ops_nil | apply p_blk | apply p_exit_it | apply p_exit_hit | apply p_ret_it | apply p_ret_blk | apply p_panic_it | apply p_panic_blk | apply p_end | (apply p_exit_miss; (· rfl)) | (apply x_region; simp only [List.toList_toArray]) | (apply x_step0; (· rfl); (· simp only [go_sem, *]; try rfl); (· rfl); simp only [putA]) | (apply x_panic; (· simp only [go_sem, *]; try rfl); (· rfl); (· simp only [go_sem, *]; try rfl)) | (apply x_step; (iterate 2 (· simp only [go_sem, *]; try rfl)); (· rfl); simp only [putA]) | (apply x_unwanted; (· simp only [go_sem, *]; try rfl); (· rfl); simp only [putA]) | (apply x_condT; (· simp only [go_sem, *]; try rfl)) | (apply x_condF; (· simp only [go_sem, *]; try rfl)) | (apply x_guardS; (· rfl); (fail_if_success (focus (show _ = some true; (· simp only [go_sem, *]; try rfl)))); (· simp only [go_sem, *]; try rfl); all_goals (intro hb; try simp only [Bool.not_eq_true', Bool.not_eq_false'] at hb)) | (apply x_condS; (· simp only [go_sem, *]; try rfl); all_goals (intro hb; try simp only [Bool.not_eq_true', Bool.not_eq_false'] at hb)) | fail
    (apply f_ret; iterate 7 (· simp only [go_sem, *, Tryz.results41]; try rfl))
    exact h
  rw [decide_eq_true h40, Bool.true_and] at h
  have d0 : decide ((40 : Int) < (s.length : Int)) = false := by simp; omega
  have hco := fun S' => rCodes w0 S' s (by omega)
  have hcl := codesB_lt s
  have hte := fun S' => rText w0 S' (codesB s) (fun c hc => by have := hcl.1 c hc; omega) (by omega)
  have hll : (codesB s).length ≤ 100000000 := by omega
  generalize codesB s = l at h hco hte hll
  have Hte := Lib.hid hte
  clear hcl hte h40 hs
  refine enter Tryz.func41 rfl (by decide +kernel) (by rw [Tryz.ntmps41]; simp) (by rw [Tryz.ntmps41]; decide) (fun hO => ?_); rw [Tryz.ntmps41]
  repeat' first | apply x_seq | apply x_skip | apply x_block | apply x_exit | apply x_ret | apply x_ops_nil | apply p_blk | apply p_exit_it | apply p_exit_hit | apply p_ret_it | apply p_ret_blk | apply p_panic_it | apply p_panic_blk | apply p_end | (apply p_exit_miss; (· rfl)) | (apply x_region; simp only [List.toList_toArray]) | (apply x_step0; (· rfl); (· simp only [go_sem, *]; try rfl); (· rfl); simp only [putA]) | (apply x_callA []; (· simp only [go_sem, *]; try rfl); (· rfl); (· simp only [go_sem, *]; try rfl); (· rfl); (iterate 2 (· simp only [go_sem, *]; try rfl)); (first | apply hco); simp only [afterCall, putA]) | (apply x_panic; (· simp only [go_sem, *]; try rfl); (· rfl); (· simp only [go_sem, *]; try rfl)) | (apply x_step; (iterate 2 (· simp only [go_sem, *]; try rfl)); (· rfl); simp only [putA]) | (apply x_unwanted; (· simp only [go_sem, *]; try rfl); (· rfl); simp only [putA]) | (apply x_condT; (· simp only [go_sem, *]; try rfl)) | (apply x_condF; (· simp only [go_sem, *]; try rfl)) | (apply x_guardS; (· rfl); (fail_if_success (focus (show _ = some true; (· simp only [go_sem, *]; try rfl)))); (· simp only [go_sem, *]; try rfl); all_goals (intro hb; try simp only [Bool.not_eq_true', Bool.not_eq_false'] at hb)) | (apply x_condS; (· simp only [go_sem, *]; try rfl); all_goals (intro hb; try simp only [Bool.not_eq_true', Bool.not_eq_false'] at hb)) | fail
  refine x_ind (fun (k : Nat) env S' => k ≤ l.length ∧ (∀ j c, j < k → l[j]? = some c → okc c = true) ∧ env 1000000 = .dfr [] ∧ env 0 = .str s ∧ env 3 = .sval false (l.map Co) ∧ env 4 = .int .i64 (k : Int) ∧ S' = S) (fun k => l.length - k) 0 ?_ ?_
  · exact ⟨Nat.zero_le _, fun j c hj => absurd hj (by omega), by (simp only [go_sem, *]; try rfl), by (simp only [go_sem, *]; try rfl), by (simp only [go_sem, *]; try rfl), by (simp only [go_sem, *]; try rfl), rfl⟩
  · rintro k env S' ⟨hk, hall, e0, f0, e3, e4, rfl⟩ IH
    have HI := Lib.hid IH
    have Hall := Lib.hid hall
    have H := Lib.hid h
    clear IH hall h hco
    by_cases hlt : k < l.length
    · obtain ⟨c, hx⟩ : ∃ c, l[k]? = some c := ⟨_, List.getElem?_eq_getElem hlt⟩
      have h1 : decide ((k : Int) < (l.length : Int)) = true := by simpa using hlt
      have hw : IntKind.i64.wrap ((k : Int) + 1) = (k : Int) + 1 := IntWalk.i64_in _ (by omega)
      have bad : okc c = false → R (.ret (.bool false)) S' := fun hc => by
        have e : l.all okc = false := by
          rw [List.all_eq_false]
          exact ⟨c, List.mem_of_getElem? hx, by simp [hc]⟩
        have := H.out
        rw [e, Bool.false_and] at this
        exact this
      have good : okc c = true → ∀ j d, j < k + 1 → l[j]? = some d → okc d = true := fun hc j d hj hd => by
        by_cases e : j = k
        · rw [e, hx] at hd; cases hd; exact hc
        · exact Hall.out j d (by omega) hd
      have Bad := Lib.hid bad
      have Good := Lib.hid good
      have Hlt := Lib.hid hlt
      clear bad good hlt hk hll
      by_cases q1 : c < 32
      · have d1 : decide ((c : Int) < 32) = true := by simp; omega
        have hc : okc c = false := by unfold okc; rw [decide_eq_false (by omega)]; rfl
        have hb := Bad.out hc
        clear q1 hc
        repeat' first | apply x_seq | apply x_skip | apply x_block | apply x_exit | apply x_ret | apply x_ops_nil | apply p_blk | apply p_exit_it | apply p_exit_hit | apply p_ret_it | apply p_ret_blk | apply p_panic_it | apply p_panic_blk | apply p_end | (apply p_exit_miss; (· rfl)) | (apply x_region; simp only [List.toList_toArray]) | (apply x_step0; (· rfl); (· simp only [go_sem, *, Co]; try rfl); (· rfl); simp only [putA]) | (apply x_panic; (· simp only [go_sem, *, Co]; try rfl); (· rfl); (· simp only [go_sem, *, Co]; try rfl)) | (apply x_step; (iterate 2 (· simp only [go_sem, *, Co]; try rfl)); (· rfl); simp only [putA]) | (apply x_unwanted; (· simp only [go_sem, *, Co]; try rfl); (· rfl); simp only [putA]) | (apply x_condT; (· simp only [go_sem, *, Co]; try rfl)) | (apply x_condF; (· simp only [go_sem, *, Co]; try rfl)) | (apply x_guardS; (· rfl); (fail_if_success (focus (show _ = some true; (· simp only [go_sem, *, Co]; try rfl)))); (· simp only [go_sem, *, Co]; try rfl); all_goals (intro hb; try simp only [Bool.not_eq_true', Bool.not_eq_false'] at hb)) | (apply x_condS; (· simp only [go_sem, *, Co]; try rfl); all_goals (intro hb; try simp only [Bool.not_eq_true', Bool.not_eq_false'] at hb)) | fail
        (apply f_ret; iterate 7 (· simp only [go_sem, *, Tryz.results41]; try rfl))
        exact hb
      have d1 : decide ((c : Int) < 32) = false := by simp; omega
      by_cases q2 : 127 ≤ c
      · have d2 : decide ((127 : Int) ≤ (c : Int)) = true := by simp; omega
        by_cases q3 : c ≤ 159
        · have d3 : decide ((c : Int) ≤ 159) = true := by simp; omega
          have hc : okc c = false := by unfold okc; rw [decide_eq_true q2, decide_eq_true q3]; simp
          have hb := Bad.out hc
          clear q1 q2 q3 hc
          repeat' first | apply x_seq | apply x_skip | apply x_block | apply x_exit | apply x_ret | apply x_ops_nil | apply p_blk | apply p_exit_it | apply p_exit_hit | apply p_ret_it | apply p_ret_blk | apply p_panic_it | apply p_panic_blk | apply p_end | (apply p_exit_miss; (· rfl)) | (apply x_region; simp only [List.toList_toArray]) | (apply x_step0; (· rfl); (· simp only [go_sem, *, Co]; try rfl); (· rfl); simp only [putA]) | (apply x_panic; (· simp only [go_sem, *, Co]; try rfl); (· rfl); (· simp only [go_sem, *, Co]; try rfl)) | (apply x_step; (iterate 2 (· simp only [go_sem, *, Co]; try rfl)); (· rfl); simp only [putA]) | (apply x_unwanted; (· simp only [go_sem, *, Co]; try rfl); (· rfl); simp only [putA]) | (apply x_condT; (· simp only [go_sem, *, Co]; try rfl)) | (apply x_condF; (· simp only [go_sem, *, Co]; try rfl)) | (apply x_guardS; (· rfl); (fail_if_success (focus (show _ = some true; (· simp only [go_sem, *, Co]; try rfl)))); (· simp only [go_sem, *, Co]; try rfl); all_goals (intro hb; try simp only [Bool.not_eq_true', Bool.not_eq_false'] at hb)) | (apply x_condS; (· simp only [go_sem, *, Co]; try rfl); all_goals (intro hb; try simp only [Bool.not_eq_true', Bool.not_eq_false'] at hb)) | fail
          (apply f_ret; iterate 7 (· simp only [go_sem, *, Tryz.results41]; try rfl))
          exact hb
        · have d3 : decide ((c : Int) ≤ 159) = false := by simp; omega
          have hc : okc c = true := by unfold okc; rw [decide_eq_false q3, decide_eq_true (by omega)]; simp
          clear q1 q2 q3
          repeat' first | apply x_seq | apply x_skip | apply x_block | apply x_exit | apply x_ret | apply x_ops_nil | apply p_blk | apply p_exit_it | apply p_exit_hit | apply p_ret_it | apply p_ret_blk | apply p_panic_it | apply p_panic_blk | apply p_end | (apply p_exit_miss; (· rfl)) | (apply x_region; simp only [List.toList_toArray]) | (apply x_step0; (· rfl); (· simp only [go_sem, *, Co]; try rfl); (· rfl); simp only [putA]) | (apply x_panic; (· simp only [go_sem, *, Co]; try rfl); (· rfl); (· simp only [go_sem, *, Co]; try rfl)) | (apply x_step; (iterate 2 (· simp only [go_sem, *, Co]; try rfl)); (· rfl); simp only [putA]) | (apply x_unwanted; (· simp only [go_sem, *, Co]; try rfl); (· rfl); simp only [putA]) | (apply x_condT; (· simp only [go_sem, *, Co]; try rfl)) | (apply x_condF; (· simp only [go_sem, *, Co]; try rfl)) | (apply x_guardS; (· rfl); (fail_if_success (focus (show _ = some true; (· simp only [go_sem, *, Co]; try rfl)))); (· simp only [go_sem, *, Co]; try rfl); all_goals (intro hb; try simp only [Bool.not_eq_true', Bool.not_eq_false'] at hb)) | (apply x_condS; (· simp only [go_sem, *, Co]; try rfl); all_goals (intro hb; try simp only [Bool.not_eq_true', Bool.not_eq_false'] at hb)) | fail
          refine HI.out (k + 1) _ _ (by have := Hlt.out; omega) ⟨Hlt.out, Good.out hc, ?_, ?_, ?_, ?_, rfl⟩
          all_goals (simp only [go_sem, *]; try rfl)
      · have d2 : decide ((127 : Int) ≤ (c : Int)) = false := by simp; omega
        have hc : okc c = true := by unfold okc; rw [decide_eq_false q2, decide_eq_true (by omega)]; rfl
        clear q1 q2
        repeat' first | apply x_seq | apply x_skip | apply x_block | apply x_exit | apply x_ret | apply x_ops_nil | apply p_blk | apply p_exit_it | apply p_exit_hit | apply p_ret_it | apply p_ret_blk | apply p_panic_it | apply p_panic_blk | apply p_end | (apply p_exit_miss; (· rfl)) | (apply x_region; simp only [List.toList_toArray]) | (apply x_step0; (· rfl); (· simp only [go_sem, *, Co]; try rfl); (· rfl); simp only [putA]) | (apply x_panic; (· simp only [go_sem, *, Co]; try rfl); (· rfl); (· simp only [go_sem, *, Co]; try rfl)) | (apply x_step; (iterate 2 (· simp only [go_sem, *, Co]; try rfl)); (· rfl); simp only [putA]) | (apply x_unwanted; (· simp only [go_sem, *, Co]; try rfl); (· rfl); simp only [putA]) | (apply x_condT; (· simp only [go_sem, *, Co]; try rfl)) | (apply x_condF; (· simp only [go_sem, *, Co]; try rfl)) | (apply x_guardS; (· rfl); (fail_if_success (focus (show _ = some true; (· simp only [go_sem, *, Co]; try rfl)))); (· simp only [go_sem, *, Co]; try rfl); all_goals (intro hb; try simp only [Bool.not_eq_true', Bool.not_eq_false'] at hb)) | (apply x_condS; (· simp only [go_sem, *, Co]; try rfl); all_goals (intro hb; try simp only [Bool.not_eq_true', Bool.not_eq_false'] at hb)) | fail
        refine HI.out (k + 1) _ _ (by have := Hlt.out; omega) ⟨Hlt.out, Good.out hc, ?_, ?_, ?_, ?_, rfl⟩
        all_goals (simp only [go_sem, *]; try rfl)
    · have h1 : decide ((k : Int) < (l.length : Int)) = false := by simpa using hlt
      have e : l.all okc = true := by
        rw [List.all_eq_true]
        intro c hc
        obtain ⟨j, hj⟩ := List.getElem?_of_mem hc
        exact Hall.out j c (by have := (List.getElem?_eq_some_iff.1 hj).1; omega) hj
      have hh := H.out
      rw [e, Bool.true_and] at hh
      have ht := Hte.out
      clear hlt hk e Hall HI hll
      repeat' first | apply x_seq | apply x_skip | apply x_block | apply x_exit | apply x_ret | apply x_ops_nil | apply p_blk | apply p_exit_it | apply p_exit_hit | apply p_ret_it | apply p_ret_blk | apply p_panic_it | apply p_panic_blk | apply p_end | (apply p_exit_miss; (· rfl)) | (apply x_region; simp only [List.toList_toArray]) | (apply x_step0; (· rfl); (· simp only [go_sem, *]; try rfl); (· rfl); simp only [putA]) | (apply x_callA []; (· simp only [go_sem, *]; try rfl); (· rfl); (· simp only [go_sem, *]; try rfl); (· rfl); (iterate 2 (· simp only [go_sem, *]; try rfl)); (first | apply ht); simp only [afterCall, putA]) | (apply x_panic; (· simp only [go_sem, *]; try rfl); (· rfl); (· simp only [go_sem, *]; try rfl)) | (apply x_step; (iterate 2 (· simp only [go_sem, *]; try rfl)); (· rfl); simp only [putA]) | (apply x_unwanted; (· simp only [go_sem, *]; try rfl); (· rfl); simp only [putA]) | (apply x_condT; (· simp only [go_sem, *]; try rfl)) | (apply x_condF; (· simp only [go_sem, *]; try rfl)) | (apply x_guardS; (· rfl); (fail_if_success (focus (show _ = some true; (· simp only [go_sem, *]; try rfl)))); (· simp only [go_sem, *]; try rfl); all_goals (intro hb; try simp only [Bool.not_eq_true', Bool.not_eq_false'] at hb)) | (apply x_condS; (· simp only [go_sem, *]; try rfl); all_goals (intro hb; try simp only [Bool.not_eq_true', Bool.not_eq_false'] at hb)) | fail
      (apply f_ret; iterate 7 (· simp only [go_sem, *, Tryz.results41]; try rfl))
      rw [show (textS l == s) = decide (textS l = s) by rw [Bool.eq_iff_iff]; simp]
      exact hh
end Go.Proofs.YtcobfilbmfokoaaGreatDoor
namespace Go.Proofs.YtcobfilbmfokoaaGreatDoor
open Go Go.Fen
set_option linter.unusedSimpArgs false
set_option linter.unusedVariables false
attribute [local irreducible] RunX WP ACall AnyP OpA ProtL
set_option maxRecDepth 8000
def Cm.av (c : Cm) : AV := .agg [.int .i64 c.kind, .int .i64 c.n, .int .i64 c.m, .str c.text]
def Fm.av (f : Fm) : AV := .agg [.str f.kw, .sval false (f.words.map AV.str), .bool f.number, .bool f.index, .bool f.text, .int .i64 f.lo, .int .i64 f.hi, .int .i64 f.mx, .bool f.name]
def formsAV : List (AV × AV) := formsL.map fun e => (.int .i64 e.1, e.2.av)
set_option maxHeartbeats 4000000 in
theorem forms (w0 : World) (S : List Blk) (R : AOut → List Blk → Prop) (h : R (.ret (.mval formsAV)) S) : ACall Tryz.prog w0 22 [] S R := by
  refine enter Tryz.func22 rfl (by decide +kernel) (by rw [Tryz.ntmps22]; simp) (by rw [Tryz.ntmps22]; decide) (fun hO => ?_); rw [Tryz.ntmps22]
  repeat' first | apply x_seq | apply x_skip | apply x_block | apply x_exit | apply x_ret | apply x_ops_nil | apply p_blk | apply p_exit_it | apply p_exit_hit | apply p_ret_it | apply p_ret_blk | apply p_panic_it | apply p_panic_blk | apply p_end | (apply p_exit_miss; (· rfl)) | (apply x_region; simp only [List.toList_toArray]) | (apply x_step0; (· rfl); (· simp only [go_sem, *]; try rfl); (· rfl); simp only [putA]) | (apply x_panic; (· simp only [go_sem, *]; try rfl); (· rfl); (· simp only [go_sem, *]; try rfl)) | (apply x_step; (iterate 2 (· simp only [go_sem, *]; try rfl)); (· rfl); simp only [putA]) | (apply x_unwanted; (· simp only [go_sem, *]; try rfl); (· rfl); simp only [putA]) | (apply x_condT; (· simp only [go_sem, *]; try rfl)) | (apply x_condF; (· simp only [go_sem, *]; try rfl)) | (apply x_guardS; (· rfl); (fail_if_success (focus (show _ = some true; (· simp only [go_sem, *]; try rfl)))); (· simp only [go_sem, *]; try rfl); all_goals (intro hb; try simp only [Bool.not_eq_true', Bool.not_eq_false'] at hb)) | (apply x_condS; (· simp only [go_sem, *]; try rfl); all_goals (intro hb; try simp only [Bool.not_eq_true', Bool.not_eq_false'] at hb)) | fail
  (apply f_ret; iterate 7 (· simp only [go_sem, *, Tryz.results22]; try rfl))
  exact h
end Go.Proofs.YtcobfilbmfokoaaGreatDoor
namespace Go.Proofs.YtcobfilbmfokoaaGreatDoor
open Go Go.Fen
set_option linter.unusedSimpArgs false
set_option linter.unusedVariables false
attribute [local irreducible] RunX WP ACall AnyP OpA ProtL
set_option maxRecDepth 8000
theorem rIn (w0 : World) (S : List Blk) (n a b : Int) (R : AOut → List Blk → Prop) (h : R (.ret (.bool (decide (a ≤ n) && decide (n ≤ b)))) S) : ACall Tryz.prog w0 40 [.int .i64 n, .int .i64 a, .int .i64 b] S R := by
  by_cases c1 : a ≤ n
  · have d1 : decide (a ≤ n) = true := decide_eq_true c1
    rw [d1, Bool.true_and] at h
    clear c1
    refine enter Tryz.func40 rfl (by decide +kernel) (by rw [Tryz.ntmps40]; simp) (by rw [Tryz.ntmps40]; decide) (fun hO => ?_); rw [Tryz.ntmps40]
    repeat' first | apply x_seq | apply x_skip | apply x_block | apply x_exit | apply x_ret | apply x_ops_nil | apply p_blk | apply p_exit_it | apply p_exit_hit | apply p_ret_it | apply p_ret_blk | apply p_panic_it | apply p_panic_blk | apply p_end | (apply p_exit_miss; (· rfl)) | (apply x_region; simp only [List.toList_toArray]) | (apply x_step0; (· rfl); (· simp only [go_sem, *]; try rfl); (· rfl); simp only [putA]) | (apply x_panic; (· simp only [go_sem, *]; try rfl); (· rfl); (· simp only [go_sem, *]; try rfl)) | (apply x_step; (iterate 2 (· simp only [go_sem, *]; try rfl)); (· rfl); simp only [putA]) | (apply x_unwanted; (· simp only [go_sem, *]; try rfl); (· rfl); simp only [putA]) | (apply x_condT; (· simp only [go_sem, *]; try rfl)) | (apply x_condF; (· simp only [go_sem, *]; try rfl)) | (apply x_guardS; (· rfl); (fail_if_success (focus (show _ = some true; (· simp only [go_sem, *]; try rfl)))); (· simp only [go_sem, *]; try rfl); all_goals (intro hb; try simp only [Bool.not_eq_true', Bool.not_eq_false'] at hb)) | (apply x_condS; (· simp only [go_sem, *]; try rfl); all_goals (intro hb; try simp only [Bool.not_eq_true', Bool.not_eq_false'] at hb)) | fail
    (apply f_ret; iterate 7 (· simp only [go_sem, *, Tryz.results40]; try rfl))
    exact h
  · have d1 : decide (a ≤ n) = false := decide_eq_false c1
    rw [d1, Bool.false_and] at h
    clear c1
    refine enter Tryz.func40 rfl (by decide +kernel) (by rw [Tryz.ntmps40]; simp) (by rw [Tryz.ntmps40]; decide) (fun hO => ?_); rw [Tryz.ntmps40]
    repeat' first | apply x_seq | apply x_skip | apply x_block | apply x_exit | apply x_ret | apply x_ops_nil | apply p_blk | apply p_exit_it | apply p_exit_hit | apply p_ret_it | apply p_ret_blk | apply p_panic_it | apply p_panic_blk | apply p_end | (apply p_exit_miss; (· rfl)) | (apply x_region; simp only [List.toList_toArray]) | (apply x_step0; (· rfl); (· simp only [go_sem, *]; try rfl); (· rfl); simp only [putA]) | (apply x_panic; (· simp only [go_sem, *]; try rfl); (· rfl); (· simp only [go_sem, *]; try rfl)) | (apply x_step; (iterate 2 (· simp only [go_sem, *]; try rfl)); (· rfl); simp only [putA]) | (apply x_unwanted; (· simp only [go_sem, *]; try rfl); (· rfl); simp only [putA]) | (apply x_condT; (· simp only [go_sem, *]; try rfl)) | (apply x_condF; (· simp only [go_sem, *]; try rfl)) | (apply x_guardS; (· rfl); (fail_if_success (focus (show _ = some true; (· simp only [go_sem, *]; try rfl)))); (· simp only [go_sem, *]; try rfl); all_goals (intro hb; try simp only [Bool.not_eq_true', Bool.not_eq_false'] at hb)) | (apply x_condS; (· simp only [go_sem, *]; try rfl); all_goals (intro hb; try simp only [Bool.not_eq_true', Bool.not_eq_false'] at hb)) | fail
    (apply f_ret; iterate 7 (· simp only [go_sem, *, Tryz.results40]; try rfl))
    exact h
set_option maxHeartbeats 8000000 in
theorem rValid (w0 : World) (S : List Blk) (c : Cm) (hs : c.text.length ≤ 10000000) (R : AOut → List Blk → Prop) (h : R (.ret (.bool (checkC c))) S) : ACall Tryz.prog w0 21 [c.av] S R := by
  have hnm := fun S' => rName w0 S' c.text hs
  have hin := rIn w0
  obtain ⟨k, n, m, t⟩ := c
  unfold Cm.av
  simp only at hnm hs ⊢
  have H := Lib.hid h
  clear h hs
  have hk : (k = 1 ∨ k = 2 ∨ k = 3 ∨ k = 4 ∨ k = 5 ∨ k = 6 ∨ k = 7 ∨ k = 8 ∨ k = 9 ∨ k = 10 ∨ k = 11 ∨ k = 12 ∨ k = 13 ∨ k = 14 ∨ k = 15 ∨ k = 16) ∨ (¬ (1 ≤ k ∧ k ≤ 16)) := by omega
  rcases hk with hk | hk
  · rcases hk with rfl | rfl | rfl | rfl | rfl | rfl | rfl | rfl | rfl | rfl | rfl | rfl | rfl | rfl | rfl | rfl
    all_goals
      refine enter Tryz.func21 rfl (by decide +kernel) (by rw [Tryz.ntmps21]; simp) (by rw [Tryz.ntmps21]; decide) (fun hO => ?_); rw [Tryz.ntmps21]
      repeat' first | apply x_seq | apply x_skip | apply x_block | apply x_exit | apply x_ret | apply x_ops_nil | apply p_blk | apply p_exit_it | apply p_exit_hit | apply p_ret_it | apply p_ret_blk | apply p_panic_it | apply p_panic_blk | apply p_end | (apply p_exit_miss; (· rfl)) | (apply x_region; simp only [List.toList_toArray]) | (apply x_step0; (· rfl); (· simp only [go_sem, *]; try rfl); (· rfl); simp only [putA]) | (apply x_callA []; (· simp only [go_sem, *]; try rfl); (· rfl); (· simp only [go_sem, *]; try rfl); (· rfl); (iterate 2 (· simp only [go_sem, *]; try rfl)); (first | apply hin | apply hnm); simp only [afterCall, putA]) | (apply x_panic; (· simp only [go_sem, *]; try rfl); (· rfl); (· simp only [go_sem, *]; try rfl)) | (apply x_step; (iterate 2 (· simp only [go_sem, *]; try rfl)); (· rfl); simp only [putA]) | (apply x_unwanted; (· simp only [go_sem, *]; try rfl); (· rfl); simp only [putA]) | (apply x_condT; (· simp only [go_sem, *]; try rfl)) | (apply x_condF; (· simp only [go_sem, *]; try rfl)) | (apply x_guardS; (· rfl); (fail_if_success (focus (show _ = some true; (· simp only [go_sem, *]; try rfl)))); (· simp only [go_sem, *]; try rfl); all_goals (intro hb; try simp only [Bool.not_eq_true', Bool.not_eq_false'] at hb)) | (apply x_condS; (· simp only [go_sem, *]; try rfl); all_goals (intro hb; try simp only [Bool.not_eq_true', Bool.not_eq_false'] at hb)) | fail
      all_goals (apply f_ret; iterate 7 (· simp only [go_sem, *, Tryz.results21]; try rfl))
    all_goals
      refine cast (congrArg (fun b => R (.ret (.bool b)) S) ?_) H.out
      rw [Bool.eq_iff_iff]
      simp [checkC, fmOf, formsL, waysL, List.lookup, validB]
      try simp_all
      try omega
  · have k1 : (k == 1) = false := by rw [beq_eq_false_iff_ne]; omega
    have k2 : (k == 2) = false := by rw [beq_eq_false_iff_ne]; omega
    have k3 : (k == 3) = false := by rw [beq_eq_false_iff_ne]; omega
    have k4 : (k == 4) = false := by rw [beq_eq_false_iff_ne]; omega
    have k5 : (k == 5) = false := by rw [beq_eq_false_iff_ne]; omega
    have k6 : (k == 6) = false := by rw [beq_eq_false_iff_ne]; omega
    have k7 : (k == 7) = false := by rw [beq_eq_false_iff_ne]; omega
    have k8 : (k == 8) = false := by rw [beq_eq_false_iff_ne]; omega
    have k9 : (k == 9) = false := by rw [beq_eq_false_iff_ne]; omega
    have k10 : (k == 10) = false := by rw [beq_eq_false_iff_ne]; omega
    have k11 : (k == 11) = false := by rw [beq_eq_false_iff_ne]; omega
    have k12 : (k == 12) = false := by rw [beq_eq_false_iff_ne]; omega
    have k13 : (k == 13) = false := by rw [beq_eq_false_iff_ne]; omega
    have k14 : (k == 14) = false := by rw [beq_eq_false_iff_ne]; omega
    have k15 : (k == 15) = false := by rw [beq_eq_false_iff_ne]; omega
    have k16 : (k == 16) = false := by rw [beq_eq_false_iff_ne]; omega
    have e : checkC ⟨k, n, m, t⟩ = false := by
      simp only [checkC, fmOf, formsL, List.lookup, k1, k2, k3, k4, k5, k6, k7, k8, k9, k10, k11, k12, k13, k14, k15, k16]
    have h := H.out
    rw [e] at h
    clear hk e H
    refine enter Tryz.func21 rfl (by decide +kernel) (by rw [Tryz.ntmps21]; simp) (by rw [Tryz.ntmps21]; decide) (fun hO => ?_); rw [Tryz.ntmps21]
    repeat' first | apply x_seq | apply x_skip | apply x_block | apply x_exit | apply x_ret | apply x_ops_nil | apply p_blk | apply p_exit_it | apply p_exit_hit | apply p_ret_it | apply p_ret_blk | apply p_panic_it | apply p_panic_blk | apply p_end | (apply p_exit_miss; (· rfl)) | (apply x_region; simp only [List.toList_toArray]) | (apply x_step0; (· rfl); (· simp only [go_sem, *]; try rfl); (· rfl); simp only [putA]) | (apply x_panic; (· simp only [go_sem, *]; try rfl); (· rfl); (· simp only [go_sem, *]; try rfl)) | (apply x_step; (iterate 2 (· simp only [go_sem, *]; try rfl)); (· rfl); simp only [putA]) | (apply x_unwanted; (· simp only [go_sem, *]; try rfl); (· rfl); simp only [putA]) | (apply x_condT; (· simp only [go_sem, *]; try rfl)) | (apply x_condF; (· simp only [go_sem, *]; try rfl)) | (apply x_guardS; (· rfl); (fail_if_success (focus (show _ = some true; (· simp only [go_sem, *]; try rfl)))); (· simp only [go_sem, *]; try rfl); all_goals (intro hb; try simp only [Bool.not_eq_true', Bool.not_eq_false'] at hb)) | (apply x_condS; (· simp only [go_sem, *]; try rfl); all_goals (intro hb; try simp only [Bool.not_eq_true', Bool.not_eq_false'] at hb)) | fail
    (apply f_ret; iterate 7 (· simp only [go_sem, *, Tryz.results21]; try rfl))
    exact h
end Go.Proofs.YtcobfilbmfokoaaGreatDoor
namespace Go.Proofs.YtcobfilbmfokoaaGreatDoor
open Go Go.Fen
set_option linter.unusedSimpArgs false
set_option linter.unusedVariables false
attribute [local irreducible] RunX WP ACall AnyP OpA ProtL
set_option maxRecDepth 8000
theorem dr1 (a : Nat) (h : a < 2) : checkC ⟨1, a, 0, []⟩ = true := by
  simp [checkC, fmOf, formsL, waysL, List.lookup, validB]; omega
theorem dr3 (a : Nat) (h : a < 4) : checkC ⟨3, a, 0, []⟩ = true := by
  simp [checkC, fmOf, formsL, waysL, List.lookup, validB]; omega
theorem dr13 (a : Nat) (h : a < 10) : checkC ⟨13, a, 0, []⟩ = true := by
  simp [checkC, fmOf, formsL, waysL, List.lookup, validB]; omega
theorem dr6 (a b : Nat) (h : a < 4) (hb : b < 99) : checkC ⟨6, a, 1 + (b : Int), []⟩ = true := by
  simp [checkC, fmOf, formsL, waysL, List.lookup, validB]; omega
theorem dr9 (a b : Nat) (h : a < 2) (hb : b < 100) : checkC ⟨9, a, 1 + (b : Int), []⟩ = true := by
  simp [checkC, fmOf, formsL, waysL, List.lookup, validB]; omega
theorem tmN (a b : Nat) : (a : Int).tmod (b : Int) = ((a % b : Nat) : Int) := by rw [Int.tmod_eq_emod_of_nonneg (by omega)]; omega
theorem sixteen : ∀ r : Nat, r < 16 → (((r : Int) = 0 ∧ (r : Int) + 1 = 1) ∨ ((r : Int) = 1 ∧ (r : Int) + 1 = 2) ∨ ((r : Int) = 2 ∧ (r : Int) + 1 = 3) ∨ ((r : Int) = 3 ∧ (r : Int) + 1 = 4) ∨ ((r : Int) = 4 ∧ (r : Int) + 1 = 5) ∨ ((r : Int) = 5 ∧ (r : Int) + 1 = 6) ∨ ((r : Int) = 6 ∧ (r : Int) + 1 = 7) ∨ ((r : Int) = 7 ∧ (r : Int) + 1 = 8) ∨ ((r : Int) = 8 ∧ (r : Int) + 1 = 9) ∨ ((r : Int) = 9 ∧ (r : Int) + 1 = 10) ∨ ((r : Int) = 10 ∧ (r : Int) + 1 = 11) ∨ ((r : Int) = 11 ∧ (r : Int) + 1 = 12) ∨ ((r : Int) = 12 ∧ (r : Int) + 1 = 13) ∨ ((r : Int) = 13 ∧ (r : Int) + 1 = 14) ∨ ((r : Int) = 14 ∧ (r : Int) + 1 = 15) ∨ ((r : Int) = 15 ∧ (r : Int) + 1 = 16)) := by decide
def draftK (j : Int) (a2 a4 a10 b9 b0 : Nat) (q : List UInt8) : Cm :=
  if j = 1 then ⟨1, a2, 0, []⟩ else if j = 3 then ⟨3, a4, 0, []⟩ else if j = 13 then ⟨13, a10, 0, []⟩ else if j = 6 then ⟨6, a4, 1 + (b9 : Int), []⟩ else if j = 9 then ⟨9, a2, 1 + (b0 : Int), []⟩
  else if j = 10 ∨ j = 11 ∨ j = 12 then (if checkC ⟨j, 0, 0, q⟩ then ⟨j, 0, 0, q⟩ else ⟨j, 0, 0, [119]⟩) else ⟨j, 0, 0, []⟩
theorem draftK_text (j : Int) (a2 a4 a10 b9 b0 : Nat) (q : List UInt8) (h : j = 10 ∨ j = 11 ∨ j = 12) : draftK j a2 a4 a10 b9 b0 q = if checkC ⟨j, 0, 0, q⟩ then ⟨j, 0, 0, q⟩ else ⟨j, 0, 0, [119]⟩ := by
  rcases h with rfl | rfl | rfl <;> rfl
theorem draftK_ok (i j : Int) (hij : ((i = 0 ∧ j = 1) ∨ (i = 1 ∧ j = 2) ∨ (i = 2 ∧ j = 3) ∨ (i = 3 ∧ j = 4) ∨ (i = 4 ∧ j = 5) ∨ (i = 5 ∧ j = 6) ∨ (i = 6 ∧ j = 7) ∨ (i = 7 ∧ j = 8) ∨ (i = 8 ∧ j = 9) ∨ (i = 9 ∧ j = 10) ∨ (i = 10 ∧ j = 11) ∨ (i = 11 ∧ j = 12) ∨ (i = 12 ∧ j = 13) ∨ (i = 13 ∧ j = 14) ∨ (i = 14 ∧ j = 15) ∨ (i = 15 ∧ j = 16))) (a2 a4 a10 b9 b0 : Nat) (q : List UInt8) (l2 : a2 < 2) (l4 : a4 < 4) (l10 : a10 < 10) (l9 : b9 < 99) (l0 : b0 < 100) (hql : q.length ≤ 200) :
    checkC (draftK j a2 a4 a10 b9 b0 q) = true ∧ (draftK j a2 a4 a10 b9 b0 q).text.length ≤ 200 := by
  rcases hij with ⟨rfl, rfl⟩ | ⟨rfl, rfl⟩ | ⟨rfl, rfl⟩ | ⟨rfl, rfl⟩ | ⟨rfl, rfl⟩ | ⟨rfl, rfl⟩ | ⟨rfl, rfl⟩ | ⟨rfl, rfl⟩ | ⟨rfl, rfl⟩ | ⟨rfl, rfl⟩ | ⟨rfl, rfl⟩ | ⟨rfl, rfl⟩ | ⟨rfl, rfl⟩ | ⟨rfl, rfl⟩ | ⟨rfl, rfl⟩ | ⟨rfl, rfl⟩
  all_goals first
    | exact ⟨dr1 a2 l2, Nat.zero_le _⟩
    | exact ⟨dr3 a4 l4, Nat.zero_le _⟩
    | exact ⟨dr13 a10 l10, Nat.zero_le _⟩
    | exact ⟨dr6 a4 b9 l4 l9, Nat.zero_le _⟩
    | exact ⟨dr9 a2 b0 l2 l0, Nat.zero_le _⟩
    | (rw [draftK_text _ _ _ _ _ _ _ (by decide)]; split; (next h => exact ⟨h, hql⟩); (exact ⟨by decide +kernel, by decide⟩))
    | (refine ⟨?_, Nat.zero_le _⟩; show checkC ⟨_, 0, 0, []⟩ = true; decide +kernel)
def draftC (k n m : Nat) (t : List UInt8) : Cm := draftK (((k % 16 : Nat) : Int) + 1) (n % 2) (n % 4) (n % 10) (m % 99) (m % 100) (List.take (min t.length 200) t)
theorem draftC_ok (k n m : Nat) (t : List UInt8) : checkC (draftC k n m t) = true ∧ (draftC k n m t).text.length ≤ 200 :=
  draftK_ok _ _ (sixteen _ (Nat.mod_lt _ (by decide))) _ _ _ _ _ _ (by omega) (by omega) (by omega) (by omega) (by omega) (by simp; omega)
def draftV (k n m : Nat) (t : List UInt8) : AV := .agg [.int .u8 k, .int .u8 n, .int .u8 m, .str t]
set_option maxHeartbeats 8000000 in
theorem rDraft (w0 : World) (S : List Blk) (k n m : Nat) (t : List UInt8) (R : AOut → List Blk → Prop) (h : R (.ret (draftC k n m t).av) S) : ACall Tryz.prog w0 8 [draftV k n m t] S R := by
  obtain ⟨i, j, hij, hki, hw0, hw1, hj⟩ : ∃ i j : Int, ((i = 0 ∧ j = 1) ∨ (i = 1 ∧ j = 2) ∨ (i = 2 ∧ j = 3) ∨ (i = 3 ∧ j = 4) ∨ (i = 4 ∧ j = 5) ∨ (i = 5 ∧ j = 6) ∨ (i = 6 ∧ j = 7) ∨ (i = 7 ∧ j = 8) ∨ (i = 8 ∧ j = 9) ∨ (i = 9 ∧ j = 10) ∨ (i = 10 ∧ j = 11) ∨ (i = 11 ∧ j = 12) ∨ (i = 12 ∧ j = 13) ∨ (i = 13 ∧ j = 14) ∨ (i = 14 ∧ j = 15) ∨ (i = 15 ∧ j = 16)) ∧ (k : Int).tmod 16 = i ∧ IntKind.i64.wrap i = i ∧ IntKind.i64.wrap j = j ∧ ((k % 16 : Nat) : Int) + 1 = j :=
    ⟨((k % 16 : Nat) : Int), ((k % 16 : Nat) : Int) + 1, sixteen _ (Nat.mod_lt _ (by decide)), tmN k 16, IntWalk.i64_in _ (by omega), IntWalk.i64_in _ (by omega), rfl⟩
  obtain ⟨a2, ea2, h2, l2⟩ : ∃ a : Nat, n % 2 = a ∧ (n : Int).tmod 2 = (a : Int) ∧ a < 2 := ⟨n % 2, rfl, tmN n 2, by omega⟩
  obtain ⟨a4, ea4, h4, l4⟩ : ∃ a : Nat, n % 4 = a ∧ (n : Int).tmod 4 = (a : Int) ∧ a < 4 := ⟨n % 4, rfl, tmN n 4, by omega⟩
  obtain ⟨a10, ea10, h10, l10⟩ : ∃ a : Nat, n % 10 = a ∧ (n : Int).tmod 10 = (a : Int) ∧ a < 10 := ⟨n % 10, rfl, tmN n 10, by omega⟩
  obtain ⟨b9, eb9, h9, l9⟩ : ∃ a : Nat, m % 99 = a ∧ (m : Int).tmod 99 = (a : Int) ∧ a < 99 := ⟨m % 99, rfl, tmN m 99, by omega⟩
  obtain ⟨b0, eb0, h0, l0⟩ : ∃ a : Nat, m % 100 = a ∧ (m : Int).tmod 100 = (a : Int) ∧ a < 100 := ⟨m % 100, rfl, tmN m 100, by omega⟩
  have u2 : IntKind.i64.wrap (a2 : Int) = a2 := IntWalk.i64_in _ (by omega)
  have u4 : IntKind.i64.wrap (a4 : Int) = a4 := IntWalk.i64_in _ (by omega)
  have u10 : IntKind.i64.wrap (a10 : Int) = a10 := IntWalk.i64_in _ (by omega)
  have v9 : IntKind.i64.wrap (b9 : Int) = b9 := IntWalk.i64_in _ (by omega)
  have v0 : IntKind.i64.wrap (b0 : Int) = b0 := IntWalk.i64_in _ (by omega)
  have x9 : IntKind.i64.wrap (1 + (b9 : Int)) = 1 + (b9 : Int) := IntWalk.i64_in _ (by omega)
  have x0 : IntKind.i64.wrap (1 + (b0 : Int)) = 1 + (b0 : Int) := IntWalk.i64_in _ (by omega)
  have hmn : (if (200 : Int) < (t.length : Int) then 200 else (t.length : Int)) = ((min t.length 200 : Nat) : Int) := by split <;> omega
  have hm2 : ((min t.length 200 : Nat) : Int) ≤ (t.length : Int) := by omega
  obtain ⟨q, hq, hql⟩ : ∃ q, List.take (min t.length 200) t = q ∧ q.length ≤ 200 := ⟨_, rfl, by simp; omega⟩
  have hv := fun S' k => rValid w0 S' ⟨k, 0, 0, q⟩ (by simp only; omega)
  unfold Cm.av at hv
  simp only at hv
  unfold draftV
  unfold draftC at h
  rw [hj, ea2, ea4, ea10, eb9, eb0, hq] at h
  have H := Lib.hid h
  clear h l2 l4 l10 l9 l0 hql ea2 ea4 ea10 eb9 eb0 hj
  rcases hij with ⟨rfl, rfl⟩ | ⟨rfl, rfl⟩ | ⟨rfl, rfl⟩ | ⟨rfl, rfl⟩ | ⟨rfl, rfl⟩ | ⟨rfl, rfl⟩ | ⟨rfl, rfl⟩ | ⟨rfl, rfl⟩ | ⟨rfl, rfl⟩ | ⟨rfl, rfl⟩ | ⟨rfl, rfl⟩ | ⟨rfl, rfl⟩ | ⟨rfl, rfl⟩ | ⟨rfl, rfl⟩ | ⟨rfl, rfl⟩ | ⟨rfl, rfl⟩
  all_goals
    refine enter Tryz.func8 rfl (by decide +kernel) (by rw [Tryz.ntmps8]; simp) (by rw [Tryz.ntmps8]; decide) (fun hO => ?_); rw [Tryz.ntmps8]
    repeat' first | apply x_seq | apply x_skip | apply x_block | apply x_exit | apply x_ret | apply x_ops_nil | apply p_blk | apply p_exit_it | apply p_exit_hit | apply p_ret_it | apply p_ret_blk | apply p_panic_it | apply p_panic_blk | apply p_end | (apply p_exit_miss; (· rfl)) | (apply x_region; simp only [List.toList_toArray]) | (apply x_step0; (· rfl); (· simp only [go_sem, *]; try rfl); (· rfl); simp only [putA]) | (apply x_callA []; (· simp only [go_sem, *]; try rfl); (· rfl); (· simp only [go_sem, *]; try rfl); (· rfl); (iterate 2 (· simp only [go_sem, *]; try rfl)); (first | apply hv); simp only [afterCall, putA]) | (apply x_panic; (· simp only [go_sem, *]; try rfl); (· rfl); (· simp only [go_sem, *]; try rfl)) | (apply x_step; (iterate 2 (· simp only [go_sem, *]; try rfl)); (· rfl); simp only [putA]) | (apply x_unwanted; (· simp only [go_sem, *]; try rfl); (· rfl); simp only [putA]) | (apply x_condT; (· simp only [go_sem, *]; try rfl)) | (apply x_condF; (· simp only [go_sem, *]; try rfl)) | (apply x_guardS; (· rfl); (fail_if_success (focus (show _ = some true; (· simp only [go_sem, *]; try rfl)))); (· simp only [go_sem, *]; try rfl); all_goals (intro hb; try simp only [Bool.not_eq_true', Bool.not_eq_false'] at hb)) | (apply x_condS; (· simp only [go_sem, *]; try rfl); all_goals (intro hb; try simp only [Bool.not_eq_true', Bool.not_eq_false'] at hb)) | (apply d_draw; (· exact mixed); (· simp only [List.size_toArray, List.length_cons, List.length_nil, Nat.reduceAdd]; try rfl)) | (apply d_done; (· decide +kernel)) | (apply a_0; (repeat (apply a_s; (· decide +kernel))); first | (apply a_take; (· decide +kernel); (· first | exact qds_FPost | exact qds_RPost | exact qds_YB | assumption); (· rfl); (iterate 3 (· simp only [go_sem, *]; try rfl)); (· rfl); (· simp only [go_sem, *]; try rfl); simp only [putA]) | (apply a_unw; (· decide +kernel); (· first | exact qds_FPost | exact qds_RPost | exact qds_YB | assumption); (· rfl); (iterate 2 (· simp only [go_sem, *]; try rfl)); (· rfl); simp only [putA])) | (apply a_0; (repeat (apply a_o; (· decide +kernel))); apply a_one; (· decide +kernel)) | (apply o_step; (iterate 3 (· simp only [go_sem, *]; try rfl)); (· rfl); simp only [putA]) | (apply o_unw; (iterate 2 (· simp only [go_sem, *]; try rfl)); (· rfl); simp only [putA]) | apply pr_nil | apply pr_same | apply pr_go | apply pl_nil | apply pl_none | (apply pl_skip; (· decide +kernel)) | (apply pl_one; (· simp only [go_sem, *]; try rfl)) | (apply o_call []; (iterate 2 (· simp only [go_sem, *]; try rfl)); (· rfl); (· simp only [go_sem, *]; try rfl); (· rfl); (iterate 2 (· simp only [go_sem, *]; try rfl)); (first | apply hv); simp only [afterOp, putA]) | fail
    all_goals (apply f_ret; iterate 7 (· simp only [go_sem, *, Tryz.results8]; try rfl))
  all_goals first
    | exact H.out
    | (have h := H.out; rw [draftK_text _ _ _ _ _ _ _ (by decide), if_pos (by assumption)] at h; exact h)
    | (have h := H.out; rw [draftK_text _ _ _ _ _ _ _ (by decide), if_neg (by intro hh; simp_all)] at h; exact h)
end Go.Proofs.YtcobfilbmfokoaaGreatDoor
namespace Go.Proofs.YtcobfilbmfokoaaGreatDoor
open Go Go.Fen
set_option linter.unusedSimpArgs false
set_option linter.unusedVariables false
attribute [local irreducible] RunX WP ACall AnyP OpA ProtL
set_option maxRecDepth 8000
set_option maxHeartbeats 8000000 in
theorem cValid (w0 : World) (S : List Blk) (f : Fm) (c : Cm) (hs : c.text.length ≤ 10000000) (R : AOut → List Blk → Prop) (h : R (.ret (.bool (validB f c))) S) : ACall Tryz.prog w0 30 [f.av, c.av] S R := by
  have hnm := fun S' => cName w0 S' c.text hs
  obtain ⟨kw, words, number, index, text, lo, hi, mx, name⟩ := f
  obtain ⟨k, n, m, t⟩ := c
  unfold Fm.av Cm.av
  simp only at hnm ⊢
  have hwl : decide ((0 : Int) < (words.length : Int)) = !decide (words = []) := by
    cases words with
    | nil => rfl
    | cons a l => simp
  clear hs
  have H := Lib.hid h
  clear h
  have hc : index = true ∨ (index = false ∧ number = true) ∨ (index = false ∧ number = false ∧ text = true ∧ name = true) ∨ (index = false ∧ number = false ∧ text = true ∧ name = false) ∨ (index = false ∧ number = false ∧ text = false) := by
    cases index <;> cases number <;> cases text <;> cases name <;> simp
  by_cases hw : words = []
  all_goals
    first
    | rw [decide_eq_true hw, Bool.not_true] at hwl
    | rw [decide_eq_false hw, Bool.not_false] at hwl
    rcases hc with rfl | ⟨rfl, rfl⟩ | ⟨rfl, rfl, rfl, rfl⟩ | ⟨rfl, rfl, rfl, rfl⟩ | ⟨rfl, rfl, rfl⟩
    all_goals
      refine enter Tryz.func30 rfl (by decide +kernel) (by rw [Tryz.ntmps30]; simp) (by rw [Tryz.ntmps30]; decide) (fun hO => ?_); rw [Tryz.ntmps30]
      repeat' first | apply x_seq | apply x_skip | apply x_block | apply x_exit | apply x_ret | apply x_ops_nil | apply p_blk | apply p_exit_it | apply p_exit_hit | apply p_ret_it | apply p_ret_blk | apply p_panic_it | apply p_panic_blk | apply p_end | (apply p_exit_miss; (· rfl)) | (apply x_region; simp only [List.toList_toArray]) | (apply x_step0; (· rfl); (· simp only [go_sem, *]; try rfl); (· rfl); simp only [putA]) | (apply x_callA []; (· simp only [go_sem, *]; try rfl); (· rfl); (· simp only [go_sem, *]; try rfl); (· rfl); (iterate 2 (· simp only [go_sem, *]; try rfl)); (first | apply hnm); simp only [afterCall, putA]) | (apply x_panic; (· simp only [go_sem, *]; try rfl); (· rfl); (· simp only [go_sem, *]; try rfl)) | (apply x_step; (iterate 2 (· simp only [go_sem, *]; try rfl)); (· rfl); simp only [putA]) | (apply x_unwanted; (· simp only [go_sem, *]; try rfl); (· rfl); simp only [putA]) | (apply x_condT; (· simp only [go_sem, *]; try rfl)) | (apply x_condF; (· simp only [go_sem, *]; try rfl)) | (apply x_guardS; (· rfl); (fail_if_success (focus (show _ = some true; (· simp only [go_sem, *]; try rfl)))); (· simp only [go_sem, *]; try rfl); all_goals (intro hb; try simp only [Bool.not_eq_true', Bool.not_eq_false'] at hb)) | (apply x_condS; (· simp only [go_sem, *]; try rfl); all_goals (intro hb; try simp only [Bool.not_eq_true', Bool.not_eq_false'] at hb)) | fail
      all_goals (apply f_ret; iterate 7 (· simp only [go_sem, *, Tryz.results30]; try rfl))
      all_goals
        refine cast (congrArg (fun b => R (.ret (.bool b)) S) ?_) H.out
        rw [Bool.eq_iff_iff]
        simp [validB, *]
end Go.Proofs.YtcobfilbmfokoaaGreatDoor
namespace Go.Proofs.YtcobfilbmfokoaaGreatDoor
open Go Go.Fen
set_option linter.unusedSimpArgs false
set_option linter.unusedVariables false
attribute [local irreducible] RunX WP ACall AnyP OpA ProtL
set_option maxRecDepth 8000
@[go_sem] theorem Str.plainL (l : List (List UInt8)) : plainL (l.map AV.str) = true := plainL_map (fun _ => rfl) l
@[go_sem] theorem Str.ltL (l : List (List UInt8)) (n : Nat) : ltL n (l.map AV.str) = true := ltL_iff.2 fun x hx => by obtain ⟨y, _, rfl⟩ := List.mem_map.1 hx; rfl
@[go_sem] theorem Str.ok (l : List (List UInt8)) : okEls 1 (l.map AV.str) = true := by
  unfold okEls; rw [List.all_eq_true]; intro x hx; obtain ⟨y, _, rfl⟩ := List.mem_map.1 hx; rfl
theorem find_form (k : Int) : formsAV.find? (fun e => keq (.int .i64 k) e.1) = (fmOf k).map fun f => (AV.int .i64 k, f.av) := by
  unfold formsAV fmOf
  generalize formsL = l
  induction l with
  | nil => rfl
  | cons e l ih =>
    obtain ⟨a, f⟩ := e
    simp only [List.map_cons]
    rw [List.find?_cons, List.lookup_cons]
    by_cases hk : k = a
    · subst hk
      simp [keq]
    · have h1 : keq (.int .i64 k) (.int .i64 a) = false := by simp [keq, hk]
      have h2 : (k == a) = false := by simp [hk]
      simp only [h1, h2]
      exact ih
theorem keys_form : (formsAV.all fun e => keyA Tryz.prog 3 e.1) = true := by
  unfold formsAV
  rw [List.all_map, List.all_eq_true]
  intro e _
  simp [keyA, un_3]
set_option maxHeartbeats 8000000 in
theorem cCheck (w0 : World) (S : List Blk) (c : Cm) (hs : c.text.length ≤ 10000000) (R : AOut → List Blk → Prop) (h : R (.ret (.int .i64 (if checkC c then 0 else 500))) S) : ACall Tryz.prog w0 11 [c.av] S R := by
  have hfo := forms w0
  have hfi := find_form c.kind
  have hke := keys_form
  simp only [keq] at hfi
  simp only [keyA, un_3] at hke
  unfold checkC at h
  cases hf : fmOf c.kind with
  | none =>
    rw [hf] at hfi h
    simp only [Bool.false_eq_true, if_false, Option.map_none] at hfi h
    unfold Cm.av
    clear hf hs
    replace hfo := Lib.hid hfo
    refine enter Tryz.func11 rfl (by decide +kernel) (by rw [Tryz.ntmps11]; simp) (by rw [Tryz.ntmps11]; decide) (fun hO => ?_); rw [Tryz.ntmps11]
    repeat' first | apply x_seq | apply x_skip | apply x_block | apply x_exit | apply x_ret | apply x_ops_nil | apply p_blk | apply p_exit_it | apply p_exit_hit | apply p_ret_it | apply p_ret_blk | apply p_panic_it | apply p_panic_blk | apply p_end | (apply p_exit_miss; (· rfl)) | (apply x_region; simp only [List.toList_toArray]) | (apply x_step0; (· rfl); (· simp only [go_sem, *]; try rfl); (· rfl); simp only [putA]) | (apply x_callA []; (· simp only [go_sem, *]; try rfl); (· rfl); (· simp only [go_sem, *]; try rfl); (· rfl); (iterate 2 (· simp only [go_sem, *]; try rfl)); (first | apply hfo.out); simp only [afterCall, putA]) | (apply x_panic; (· simp only [go_sem, *]; try rfl); (· rfl); (· simp only [go_sem, *]; try rfl)) | (apply x_step; (iterate 2 (· simp only [go_sem, *]; try rfl)); (· rfl); simp only [putA]) | (apply x_unwanted; (· simp only [go_sem, *]; try rfl); (· rfl); simp only [putA]) | (apply x_condT; (· simp only [go_sem, *]; try rfl)) | (apply x_condF; (· simp only [go_sem, *]; try rfl)) | (apply x_guardS; (· rfl); (fail_if_success (focus (show _ = some true; (· simp only [go_sem, *]; try rfl)))); (· simp only [go_sem, *]; try rfl); all_goals (intro hb; try simp only [Bool.not_eq_true', Bool.not_eq_false'] at hb)) | (apply x_condS; (· simp only [go_sem, *]; try rfl); all_goals (intro hb; try simp only [Bool.not_eq_true', Bool.not_eq_false'] at hb)) | (apply d_draw; (· exact mixed); (· simp only [List.size_toArray, List.length_cons, List.length_nil, Nat.reduceAdd]; try rfl)) | (apply d_done; (· decide +kernel)) | (apply a_0; (repeat (apply a_s; (· decide +kernel))); first | (apply a_take; (· decide +kernel); (· first | exact qds_FPost | exact qds_RPost | exact qds_YB | assumption); (· rfl); (iterate 3 (· simp only [go_sem, *]; try rfl)); (· rfl); (· simp only [go_sem, *]; try rfl); simp only [putA]) | (apply a_unw; (· decide +kernel); (· first | exact qds_FPost | exact qds_RPost | exact qds_YB | assumption); (· rfl); (iterate 2 (· simp only [go_sem, *]; try rfl)); (· rfl); simp only [putA])) | (apply a_0; (repeat (apply a_o; (· decide +kernel))); apply a_one; (· decide +kernel)) | (apply d_two 0 7; (· decide +kernel)) | (apply o_step; (iterate 3 (· simp only [go_sem, *]; try rfl)); (· rfl); simp only [putA]) | (apply o_unw; (iterate 2 (· simp only [go_sem, *]; try rfl)); (· rfl); simp only [putA]) | apply pr_nil | apply pr_same | apply pr_go | apply pl_nil | apply pl_none | (apply pl_skip; (· decide +kernel)) | (apply pl_one; (· simp only [go_sem, *]; try rfl)) | (apply o_call []; (iterate 2 (· simp only [go_sem, *]; try rfl)); (· rfl); (· simp only [go_sem, *]; try rfl); (· rfl); (iterate 2 (· simp only [go_sem, *]; try rfl)); (first | apply hfo.out); simp only [afterOp, putA]) | fail
    all_goals (apply f_ret; iterate 7 (· simp only [go_sem, *, Tryz.results11]; try rfl))
    all_goals exact h
  | some f =>
    have hva := fun S' => cValid w0 S' f c hs
    rw [hf] at hfi h
    simp only [Option.map_some] at hfi h
    unfold Fm.av at hfi hva
    unfold Cm.av at hva ⊢
    clear hf hs
    replace hfo := Lib.hid hfo
    cases hb : validB f c with
    | true =>
      rw [hb] at hva
      simp only [hb, if_true] at h
      replace hva := Lib.hid hva
      clear hb
      refine enter Tryz.func11 rfl (by decide +kernel) (by rw [Tryz.ntmps11]; simp) (by rw [Tryz.ntmps11]; decide) (fun hO => ?_); rw [Tryz.ntmps11]
      repeat' first | apply x_seq | apply x_skip | apply x_block | apply x_exit | apply x_ret | apply x_ops_nil | apply p_blk | apply p_exit_it | apply p_exit_hit | apply p_ret_it | apply p_ret_blk | apply p_panic_it | apply p_panic_blk | apply p_end | (apply p_exit_miss; (· rfl)) | (apply x_region; simp only [List.toList_toArray]) | (apply x_step0; (· rfl); (· simp only [go_sem, *]; try rfl); (· rfl); simp only [putA]) | (apply x_callA []; (· simp only [go_sem, *]; try rfl); (· rfl); (· simp only [go_sem, *]; try rfl); (· rfl); (iterate 2 (· simp only [go_sem, *]; try rfl)); (first | apply hfo.out | apply hva.out); simp only [afterCall, putA]) | (apply x_panic; (· simp only [go_sem, *]; try rfl); (· rfl); (· simp only [go_sem, *]; try rfl)) | (apply x_step; (iterate 2 (· simp only [go_sem, *]; try rfl)); (· rfl); simp only [putA]) | (apply x_unwanted; (· simp only [go_sem, *]; try rfl); (· rfl); simp only [putA]) | (apply x_condT; (· simp only [go_sem, *]; try rfl)) | (apply x_condF; (· simp only [go_sem, *]; try rfl)) | (apply x_guardS; (· rfl); (fail_if_success (focus (show _ = some true; (· simp only [go_sem, *]; try rfl)))); (· simp only [go_sem, *]; try rfl); all_goals (intro hb; try simp only [Bool.not_eq_true', Bool.not_eq_false'] at hb)) | (apply x_condS; (· simp only [go_sem, *]; try rfl); all_goals (intro hb; try simp only [Bool.not_eq_true', Bool.not_eq_false'] at hb)) | (apply d_draw; (· exact mixed); (· simp only [List.size_toArray, List.length_cons, List.length_nil, Nat.reduceAdd]; try rfl)) | (apply d_done; (· decide +kernel)) | (apply a_0; (repeat (apply a_s; (· decide +kernel))); first | (apply a_take; (· decide +kernel); (· first | exact qds_FPost | exact qds_RPost | exact qds_YB | assumption); (· rfl); (iterate 3 (· simp only [go_sem, *]; try rfl)); (· rfl); (· simp only [go_sem, *]; try rfl); simp only [putA]) | (apply a_unw; (· decide +kernel); (· first | exact qds_FPost | exact qds_RPost | exact qds_YB | assumption); (· rfl); (iterate 2 (· simp only [go_sem, *]; try rfl)); (· rfl); simp only [putA])) | (apply a_0; (repeat (apply a_o; (· decide +kernel))); apply a_one; (· decide +kernel)) | (apply d_two 0 7; (· decide +kernel)) | (apply o_step; (iterate 3 (· simp only [go_sem, *]; try rfl)); (· rfl); simp only [putA]) | (apply o_unw; (iterate 2 (· simp only [go_sem, *]; try rfl)); (· rfl); simp only [putA]) | apply pr_nil | apply pr_same | apply pr_go | apply pl_nil | apply pl_none | (apply pl_skip; (· decide +kernel)) | (apply pl_one; (· simp only [go_sem, *]; try rfl)) | (apply o_call []; (iterate 2 (· simp only [go_sem, *]; try rfl)); (· rfl); (· simp only [go_sem, *]; try rfl); (· rfl); (iterate 2 (· simp only [go_sem, *]; try rfl)); (first | apply hfo.out | apply hva.out); simp only [afterOp, putA]) | fail
      all_goals (apply f_ret; iterate 7 (· simp only [go_sem, *, Tryz.results11]; try rfl))
      all_goals exact h
    | false =>
      rw [hb] at hva
      simp only [hb, Bool.false_eq_true, if_false] at h
      replace hva := Lib.hid hva
      clear hb
      refine enter Tryz.func11 rfl (by decide +kernel) (by rw [Tryz.ntmps11]; simp) (by rw [Tryz.ntmps11]; decide) (fun hO => ?_); rw [Tryz.ntmps11]
      repeat' first | apply x_seq | apply x_skip | apply x_block | apply x_exit | apply x_ret | apply x_ops_nil | apply p_blk | apply p_exit_it | apply p_exit_hit | apply p_ret_it | apply p_ret_blk | apply p_panic_it | apply p_panic_blk | apply p_end | (apply p_exit_miss; (· rfl)) | (apply x_region; simp only [List.toList_toArray]) | (apply x_step0; (· rfl); (· simp only [go_sem, *]; try rfl); (· rfl); simp only [putA]) | (apply x_callA []; (· simp only [go_sem, *]; try rfl); (· rfl); (· simp only [go_sem, *]; try rfl); (· rfl); (iterate 2 (· simp only [go_sem, *]; try rfl)); (first | apply hfo.out | apply hva.out); simp only [afterCall, putA]) | (apply x_panic; (· simp only [go_sem, *]; try rfl); (· rfl); (· simp only [go_sem, *]; try rfl)) | (apply x_step; (iterate 2 (· simp only [go_sem, *]; try rfl)); (· rfl); simp only [putA]) | (apply x_unwanted; (· simp only [go_sem, *]; try rfl); (· rfl); simp only [putA]) | (apply x_condT; (· simp only [go_sem, *]; try rfl)) | (apply x_condF; (· simp only [go_sem, *]; try rfl)) | (apply x_guardS; (· rfl); (fail_if_success (focus (show _ = some true; (· simp only [go_sem, *]; try rfl)))); (· simp only [go_sem, *]; try rfl); all_goals (intro hb; try simp only [Bool.not_eq_true', Bool.not_eq_false'] at hb)) | (apply x_condS; (· simp only [go_sem, *]; try rfl); all_goals (intro hb; try simp only [Bool.not_eq_true', Bool.not_eq_false'] at hb)) | (apply d_draw; (· exact mixed); (· simp only [List.size_toArray, List.length_cons, List.length_nil, Nat.reduceAdd]; try rfl)) | (apply d_done; (· decide +kernel)) | (apply a_0; (repeat (apply a_s; (· decide +kernel))); first | (apply a_take; (· decide +kernel); (· first | exact qds_FPost | exact qds_RPost | exact qds_YB | assumption); (· rfl); (iterate 3 (· simp only [go_sem, *]; try rfl)); (· rfl); (· simp only [go_sem, *]; try rfl); simp only [putA]) | (apply a_unw; (· decide +kernel); (· first | exact qds_FPost | exact qds_RPost | exact qds_YB | assumption); (· rfl); (iterate 2 (· simp only [go_sem, *]; try rfl)); (· rfl); simp only [putA])) | (apply a_0; (repeat (apply a_o; (· decide +kernel))); apply a_one; (· decide +kernel)) | (apply d_two 0 7; (· decide +kernel)) | (apply o_step; (iterate 3 (· simp only [go_sem, *]; try rfl)); (· rfl); simp only [putA]) | (apply o_unw; (iterate 2 (· simp only [go_sem, *]; try rfl)); (· rfl); simp only [putA]) | apply pr_nil | apply pr_same | apply pr_go | apply pl_nil | apply pl_none | (apply pl_skip; (· decide +kernel)) | (apply pl_one; (· simp only [go_sem, *]; try rfl)) | (apply o_call []; (iterate 2 (· simp only [go_sem, *]; try rfl)); (· rfl); (· simp only [go_sem, *]; try rfl); (· rfl); (iterate 2 (· simp only [go_sem, *]; try rfl)); (first | apply hfo.out | apply hva.out); simp only [afterOp, putA]) | fail
      all_goals (apply f_ret; iterate 7 (· simp only [go_sem, *, Tryz.results11]; try rfl))
      all_goals exact h
end Go.Proofs.YtcobfilbmfokoaaGreatDoor
