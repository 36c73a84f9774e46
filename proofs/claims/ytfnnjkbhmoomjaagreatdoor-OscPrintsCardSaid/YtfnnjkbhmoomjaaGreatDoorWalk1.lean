/- YtfnnjkbhmoomjaaGreatDoorWalk1. Texts of the proof of a law about texts: a layer of abstract values above the worlds, the types, the walks of the functions that the law reaches, the law and its card. Own work of an AI agent. -/
import Derived.Test.YtfnnjkbhmoomjaaGreatDoorWalk0
import Derived.Shelf.Strings.Search1
import Derived.Test.YtfnnjkbhmoomjaaGreatDoorShelf
import Derived.Test.YtfnnjkbhmoomjaaGreatDoorCore1
import Derived.Shelf.Strings.Repeat
import Derived.Shelf.Strings.SlTrimAscii
set_option linter.all false
set_option linter.unusedVariables false
set_option linter.unusedSimpArgs false
namespace Go.Proofs.YtfnnjkbhmoomjaaGreatDoor
open Go Go.Fen
set_option linter.unusedSimpArgs false
set_option linter.unusedVariables false
attribute [local irreducible] RunX WP ACall AnyP OpA ProtL afterCall afterOp
set_option maxRecDepth 8000
set_option maxHeartbeats 4000000 in
theorem rTitle (w0 : World) (S : List Blk) (s : List UInt8) (hs : s.length ≤ 10000000) (R : AOut → List Blk → Prop) (h : R (.ret (.bool (titleB s))) S) : ACall Tryz.prog w0 27 [.str s] S R := by
  unfold titleB nameT at h
  by_cases h40 : s.length ≤ 510
  case neg =>
    rw [decide_eq_false h40, Bool.false_and] at h
    have d0 : decide ((510 : Int) < (s.length : Int)) = true := by simp; omega
    clear h40 hs
    refine enter Tryz.func27 rfl (by decide +kernel) (by rw [Tryz.ntmps27]; simp) (by rw [Tryz.ntmps27]; decide) (fun hO => ?_); rw [Tryz.ntmps27]
    repeat' first | refine st ?_ | (refine br ?_ ?_; all_goals (intro hb; try simp only [Bool.not_eq_true', Bool.not_eq_false'] at hb)) | fail
    (apply f_ret; iterate 7 (· simp only [go_sem, *, Tryz.results27]; try rfl))
    exact h
  rw [decide_eq_true h40, Bool.true_and] at h
  have d0 : decide ((510 : Int) < (s.length : Int)) = false := by simp; omega
  have hco := fun S' => rCodes w0 S' s (by omega)
  have hcl := codesB_lt s
  have hte := fun S' => rText w0 S' (codesB s) (fun c hc => by have := hcl.1 c hc; omega) (by omega)
  have hll : (codesB s).length ≤ 100000000 := by omega
  generalize codesB s = l at h hco hte hll
  have Hte := Lib.hid hte
  clear hcl hte h40 hs
  refine enter Tryz.func27 rfl (by decide +kernel) (by rw [Tryz.ntmps27]; simp) (by rw [Tryz.ntmps27]; decide) (fun hO => ?_); rw [Tryz.ntmps27]
  repeat' first | refine st ?_ | (refine ca ?_; first | apply hco) | (refine br ?_ ?_; all_goals (intro hb; try simp only [Bool.not_eq_true', Bool.not_eq_false'] at hb)) | fail
  refine x_ind (fun (k : Nat) env S' => k ≤ l.length ∧ (∀ j c, j < k → l[j]? = some c → okT c = true) ∧ env 1000000 = .dfr [] ∧ env 0 = .str s ∧ env 3 = .sval false (l.map Co) ∧ env 4 = .int .i64 (k : Int) ∧ S' = S) (fun k => l.length - k) 0 ?_ ?_
  · exact ⟨Nat.zero_le _, fun j c hj => absurd hj (by omega), by (simp only [go_sem, *]; try rfl), by (simp only [go_sem, *]; try rfl), by (simp only [go_sem, *]; try rfl), by (simp only [go_sem, *]; try rfl), rfl⟩
  · rintro k env S' ⟨hk, hall, e0, f0, e3, e4, rfl⟩ IH
    have HI := Lib.hid IH
    have Hall := Lib.hid hall
    have H := Lib.hid h
    clear IH hall h hco
    by_cases hlt : k < l.length
    · obtain ⟨c, hx⟩ : ∃ c, l[k]? = some c := ⟨_, List.getElem?_eq_getElem hlt⟩
      have h1 : decide ((k : Int) < (l.length : Int)) = true := by simpa using hlt
      have hw : IntKind.i64.wrap ((k : Int) + 1) = (k : Int) + 1 := IntWalk.i64_in _ (by omega)
      have bad : okT c = false → R (.ret (.bool false)) S' := fun hc => by
        have e : l.all okT = false := by
          rw [List.all_eq_false]
          exact ⟨c, List.mem_of_getElem? hx, by simp [hc]⟩
        have := H.out
        rw [e, Bool.false_and] at this
        exact this
      have good : okT c = true → ∀ j d, j < k + 1 → l[j]? = some d → okT d = true := fun hc j d hj hd => by
        by_cases e : j = k
        · rw [e, hx] at hd; cases hd; exact hc
        · exact Hall.out j d (by omega) hd
      have Bad := Lib.hid bad
      have Good := Lib.hid good
      have Hlt := Lib.hid hlt
      clear bad good hlt hk hll
      by_cases q1 : c < 32
      · have d1 : decide ((c : Int) < 32) = true := by simp; omega
        have hc : okT c = false := by unfold okT; rw [decide_eq_false (by omega)]; rfl
        have hb := Bad.out hc
        clear q1 hc
        repeat' first | apply x_seq | apply x_skip | apply x_block | apply x_exit | apply x_ret | apply x_ops_nil | apply p_blk | apply p_exit_it | apply p_exit_hit | apply p_ret_it | apply p_ret_blk | apply p_panic_it | apply p_panic_blk | apply p_end | (apply p_exit_miss; (· rfl)) | (apply x_region; simp only [List.toList_toArray]) | (apply x_step0; (· rfl); (· simp only [go_sem, *, Co]; try rfl); (· rfl); simp only [putA]) | (apply ac_ret; simp only [putA]) | apply ac_panic | (apply x_panic; (· simp only [go_sem, *, Co]; try rfl); (· rfl); (· simp only [go_sem, *, Co]; try rfl)) | (apply x_step; (iterate 2 (· simp only [go_sem, *, Co]; try rfl)); (· rfl); simp only [putA]) | (apply x_unwanted; (· simp only [go_sem, *, Co]; try rfl); (· rfl); simp only [putA]) | (apply x_condT; (· simp only [go_sem, *, Co]; try rfl)) | (apply x_condF; (· simp only [go_sem, *, Co]; try rfl)) | (apply x_guardS; (· rfl); (fail_if_success (focus (show _ = some true; (· simp only [go_sem, *, Co]; try rfl)))); (· simp only [go_sem, *, Co]; try rfl); all_goals (intro hb; try simp only [Bool.not_eq_true', Bool.not_eq_false'] at hb)) | (apply x_condS; (· simp only [go_sem, *, Co]; try rfl); all_goals (intro hb; try simp only [Bool.not_eq_true', Bool.not_eq_false'] at hb)) | fail
        (apply f_ret; iterate 7 (· simp only [go_sem, *, Tryz.results27]; try rfl))
        exact hb
      have d1 : decide ((c : Int) < 32) = false := by simp; omega
      by_cases q2 : 127 ≤ c
      · have d2 : decide ((127 : Int) ≤ (c : Int)) = true := by simp; omega
        by_cases q3 : c ≤ 159
        · have d3 : decide ((c : Int) ≤ 159) = true := by simp; omega
          have hc : okT c = false := by unfold okT; rw [decide_eq_true q2, decide_eq_true q3]; simp
          have hb := Bad.out hc
          clear q1 q2 q3 hc
          repeat' first | apply x_seq | apply x_skip | apply x_block | apply x_exit | apply x_ret | apply x_ops_nil | apply p_blk | apply p_exit_it | apply p_exit_hit | apply p_ret_it | apply p_ret_blk | apply p_panic_it | apply p_panic_blk | apply p_end | (apply p_exit_miss; (· rfl)) | (apply x_region; simp only [List.toList_toArray]) | (apply x_step0; (· rfl); (· simp only [go_sem, *, Co]; try rfl); (· rfl); simp only [putA]) | (apply ac_ret; simp only [putA]) | apply ac_panic | (apply x_panic; (· simp only [go_sem, *, Co]; try rfl); (· rfl); (· simp only [go_sem, *, Co]; try rfl)) | (apply x_step; (iterate 2 (· simp only [go_sem, *, Co]; try rfl)); (· rfl); simp only [putA]) | (apply x_unwanted; (· simp only [go_sem, *, Co]; try rfl); (· rfl); simp only [putA]) | (apply x_condT; (· simp only [go_sem, *, Co]; try rfl)) | (apply x_condF; (· simp only [go_sem, *, Co]; try rfl)) | (apply x_guardS; (· rfl); (fail_if_success (focus (show _ = some true; (· simp only [go_sem, *, Co]; try rfl)))); (· simp only [go_sem, *, Co]; try rfl); all_goals (intro hb; try simp only [Bool.not_eq_true', Bool.not_eq_false'] at hb)) | (apply x_condS; (· simp only [go_sem, *, Co]; try rfl); all_goals (intro hb; try simp only [Bool.not_eq_true', Bool.not_eq_false'] at hb)) | fail
          (apply f_ret; iterate 7 (· simp only [go_sem, *, Tryz.results27]; try rfl))
          exact hb
        · have d3 : decide ((c : Int) ≤ 159) = false := by simp; omega
          have hc : okT c = true := by unfold okT; rw [decide_eq_false q3, decide_eq_true (by omega)]; simp
          clear q1 q2 q3
          repeat' first | apply x_seq | apply x_skip | apply x_block | apply x_exit | apply x_ret | apply x_ops_nil | apply p_blk | apply p_exit_it | apply p_exit_hit | apply p_ret_it | apply p_ret_blk | apply p_panic_it | apply p_panic_blk | apply p_end | (apply p_exit_miss; (· rfl)) | (apply x_region; simp only [List.toList_toArray]) | (apply x_step0; (· rfl); (· simp only [go_sem, *, Co]; try rfl); (· rfl); simp only [putA]) | (apply ac_ret; simp only [putA]) | apply ac_panic | (apply x_panic; (· simp only [go_sem, *, Co]; try rfl); (· rfl); (· simp only [go_sem, *, Co]; try rfl)) | (apply x_step; (iterate 2 (· simp only [go_sem, *, Co]; try rfl)); (· rfl); simp only [putA]) | (apply x_unwanted; (· simp only [go_sem, *, Co]; try rfl); (· rfl); simp only [putA]) | (apply x_condT; (· simp only [go_sem, *, Co]; try rfl)) | (apply x_condF; (· simp only [go_sem, *, Co]; try rfl)) | (apply x_guardS; (· rfl); (fail_if_success (focus (show _ = some true; (· simp only [go_sem, *, Co]; try rfl)))); (· simp only [go_sem, *, Co]; try rfl); all_goals (intro hb; try simp only [Bool.not_eq_true', Bool.not_eq_false'] at hb)) | (apply x_condS; (· simp only [go_sem, *, Co]; try rfl); all_goals (intro hb; try simp only [Bool.not_eq_true', Bool.not_eq_false'] at hb)) | fail
          refine HI.out (k + 1) _ _ (by have := Hlt.out; omega) ⟨Hlt.out, Good.out hc, ?_, ?_, ?_, ?_, rfl⟩
          all_goals (simp only [go_sem, *]; try rfl)
      · have d2 : decide ((127 : Int) ≤ (c : Int)) = false := by simp; omega
        have hc : okT c = true := by unfold okT; rw [decide_eq_false q2, decide_eq_true (by omega)]; rfl
        clear q1 q2
        repeat' first | apply x_seq | apply x_skip | apply x_block | apply x_exit | apply x_ret | apply x_ops_nil | apply p_blk | apply p_exit_it | apply p_exit_hit | apply p_ret_it | apply p_ret_blk | apply p_panic_it | apply p_panic_blk | apply p_end | (apply p_exit_miss; (· rfl)) | (apply x_region; simp only [List.toList_toArray]) | (apply x_step0; (· rfl); (· simp only [go_sem, *, Co]; try rfl); (· rfl); simp only [putA]) | (apply ac_ret; simp only [putA]) | apply ac_panic | (apply x_panic; (· simp only [go_sem, *, Co]; try rfl); (· rfl); (· simp only [go_sem, *, Co]; try rfl)) | (apply x_step; (iterate 2 (· simp only [go_sem, *, Co]; try rfl)); (· rfl); simp only [putA]) | (apply x_unwanted; (· simp only [go_sem, *, Co]; try rfl); (· rfl); simp only [putA]) | (apply x_condT; (· simp only [go_sem, *, Co]; try rfl)) | (apply x_condF; (· simp only [go_sem, *, Co]; try rfl)) | (apply x_guardS; (· rfl); (fail_if_success (focus (show _ = some true; (· simp only [go_sem, *, Co]; try rfl)))); (· simp only [go_sem, *, Co]; try rfl); all_goals (intro hb; try simp only [Bool.not_eq_true', Bool.not_eq_false'] at hb)) | (apply x_condS; (· simp only [go_sem, *, Co]; try rfl); all_goals (intro hb; try simp only [Bool.not_eq_true', Bool.not_eq_false'] at hb)) | fail
        refine HI.out (k + 1) _ _ (by have := Hlt.out; omega) ⟨Hlt.out, Good.out hc, ?_, ?_, ?_, ?_, rfl⟩
        all_goals (simp only [go_sem, *]; try rfl)
    · have h1 : decide ((k : Int) < (l.length : Int)) = false := by simpa using hlt
      have e : l.all okT = true := by
        rw [List.all_eq_true]
        intro c hc
        obtain ⟨j, hj⟩ := List.getElem?_of_mem hc
        exact Hall.out j c (by have := (List.getElem?_eq_some_iff.1 hj).1; omega) hj
      have hh := H.out
      rw [e, Bool.true_and] at hh
      have ht := Hte.out
      clear hlt hk e Hall HI hll
      repeat' first | refine st ?_ | (refine ca ?_; first | apply ht) | (refine br ?_ ?_; all_goals (intro hb; try simp only [Bool.not_eq_true', Bool.not_eq_false'] at hb)) | fail
      (apply f_ret; iterate 7 (· simp only [go_sem, *, Tryz.results27]; try rfl))
      rw [show (textS l == s) = decide (textS l = s) by rw [Bool.eq_iff_iff]; simp]
      exact hh
end Go.Proofs.YtfnnjkbhmoomjaaGreatDoor
namespace Go.Proofs.YtfnnjkbhmoomjaaGreatDoor
open Go Go.Fen
set_option linter.unusedSimpArgs false
set_option linter.unusedVariables false
attribute [local irreducible] RunX WP ACall AnyP OpA ProtL afterCall afterOp
set_option maxRecDepth 8000
theorem tmK (a b : Nat) : (a : Int).tmod (b : Int) = ((a % b : Nat) : Int) := by rw [Int.tmod_eq_emod_of_nonneg (by omega)]; omega
theorem tdK (a b : Nat) (h : a < 4294967296) : IntKind.i64.wrap ((a : Int).tdiv (b : Int)) = ((a / b : Nat) : Int) := by
  have := Nat.div_le_self a b
  rw [Int.tdiv_eq_ediv_of_nonneg (by omega), ← Int.natCast_ediv]
  generalize a / b = q at *
  exact IntWalk.i64_in _ (by omega)
end Go.Proofs.YtfnnjkbhmoomjaaGreatDoor
namespace Go.Proofs.YtfnnjkbhmoomjaaGreatDoor
open Go Go.Fen
set_option linter.unusedSimpArgs false
set_option linter.unusedVariables false
attribute [local irreducible] RunX WP ACall AnyP OpA ProtL afterCall afterOp
set_option maxRecDepth 8000
end Go.Proofs.YtfnnjkbhmoomjaaGreatDoor
namespace Go.Proofs.YtfnnjkbhmoomjaaGreatDoor
open Go Go.Fen
set_option linter.unusedSimpArgs false
set_option linter.unusedVariables false
attribute [local irreducible] RunX WP ACall AnyP OpA ProtL afterCall afterOp
set_option maxRecDepth 8000
theorem rCheck3 (w0 : World) (S : List Blk) (n : Int) (R : AOut → List Blk → Prop) (h : R (.ret (.int .i64 (if 0 ≤ n ∧ n ≤ 16777215 then 0 else 130))) S) : ACall Tryz.prog w0 58 [.agg [.int .i64 2, .int .i64 n]] S R := by
  by_cases c1 : 0 ≤ n
  · have d1 : decide (0 ≤ n) = true := decide_eq_true c1
    by_cases c2 : n ≤ 16777215
    · have d2 : decide (n ≤ 16777215) = true := decide_eq_true c2
      rw [if_pos ⟨c1, c2⟩] at h
      clear c1 c2
      refine enter Tryz.func58 rfl (by decide +kernel) (by rw [Tryz.ntmps58]; simp) (by rw [Tryz.ntmps58]; decide) (fun hO => ?_); rw [Tryz.ntmps58]
      repeat' first | refine st ?_ | (refine br ?_ ?_; all_goals (intro hb; try simp only [Bool.not_eq_true', Bool.not_eq_false'] at hb)) | fail
      (apply f_ret; iterate 7 (· simp only [go_sem, *, Tryz.results58]; try rfl))
      exact h
    · have d2 : decide (n ≤ 16777215) = false := decide_eq_false c2
      rw [if_neg (fun e => c2 e.2)] at h
      clear c1 c2
      refine enter Tryz.func58 rfl (by decide +kernel) (by rw [Tryz.ntmps58]; simp) (by rw [Tryz.ntmps58]; decide) (fun hO => ?_); rw [Tryz.ntmps58]
      repeat' first | refine st ?_ | (refine br ?_ ?_; all_goals (intro hb; try simp only [Bool.not_eq_true', Bool.not_eq_false'] at hb)) | fail
      (apply f_ret; iterate 7 (· simp only [go_sem, *, Tryz.results58]; try rfl))
      exact h
  · have d1 : decide (0 ≤ n) = false := decide_eq_false c1
    rw [if_neg (fun e => c1 e.1)] at h
    clear c1
    refine enter Tryz.func58 rfl (by decide +kernel) (by rw [Tryz.ntmps58]; simp) (by rw [Tryz.ntmps58]; decide) (fun hO => ?_); rw [Tryz.ntmps58]
    repeat' first | refine st ?_ | (refine br ?_ ?_; all_goals (intro hb; try simp only [Bool.not_eq_true', Bool.not_eq_false'] at hb)) | fail
    (apply f_ret; iterate 7 (· simp only [go_sem, *, Tryz.results58]; try rfl))
    exact h
theorem rRgb3 (w0 : World) (S : List Blk) (n : Int) (hn : 0 ≤ n ∧ n ≤ 16777215) (R : AOut → List Blk → Prop) (h : R (.ret (.tup [.int .i64 n, .bool true])) S) : ACall Tryz.prog w0 59 [.agg [.int .i64 2, .int .i64 n]] S R := by
  have hc := fun S' => rCheck3 w0 S' n
  rw [if_pos hn] at hc
  clear hn
  refine enter Tryz.func59 rfl (by decide +kernel) (by rw [Tryz.ntmps59]; simp) (by rw [Tryz.ntmps59]; decide) (fun hO => ?_); rw [Tryz.ntmps59]
  repeat' first | refine st ?_ | (refine ca ?_; first | apply hc) | (refine br ?_ ?_; all_goals (intro hb; try simp only [Bool.not_eq_true', Bool.not_eq_false'] at hb)) | fail
  (apply f_ret; iterate 7 (· simp only [go_sem, *, Tryz.results59]; try rfl))
  exact h
theorem rTextBad (w0 : World) (S : List Blk) (n : Int) (hn : ¬ (0 ≤ n ∧ n ≤ 16777215)) (R : AOut → List Blk → Prop) (h : R (.ret (.tup [.str [], .int .i64 130])) S) : ACall Tryz.prog w0 28 [.agg [.int .i64 2, .int .i64 n]] S R := by
  have hc := fun S' => rCheck3 w0 S' n
  rw [if_neg hn] at hc
  clear hn
  refine enter Tryz.func28 rfl (by decide +kernel) (by rw [Tryz.ntmps28]; simp) (by rw [Tryz.ntmps28]; decide) (fun hO => ?_); rw [Tryz.ntmps28]
  repeat' first | refine st ?_ | (refine ca ?_; first | apply hc) | (refine br ?_ ?_; all_goals (intro hb; try simp only [Bool.not_eq_true', Bool.not_eq_false'] at hb)) | fail
  (apply f_ret; iterate 7 (· simp only [go_sem, *, Tryz.results28]; try rfl))
  exact h
theorem hexSl : ∀ a : Nat, a < 16 → List.drop a ((48 : UInt8) :: List.take a [49, 50, 51, 52, 53, 54, 55, 56, 57, 97, 98, 99, 100, 101, 102]) = [hexC a] := by decide +kernel
set_option maxHeartbeats 4000000 in
theorem rTextOk (w0 : World) (S : List Blk) (n : Nat) (hn : n ≤ 16777215) (R : AOut → List Blk → Prop) (h : R (.ret (.tup [.str (rgbT n), .int .i64 0])) S) : ACall Tryz.prog w0 28 [.agg [.int .i64 2, .int .i64 n]] S R := by
  have hc := fun S' => rCheck3 w0 S' n
  rw [if_pos (by omega)] at hc
  have hr := fun S' => rRgb3 w0 S' n (by omega)
  unfold rgbT at h
  have q0 : IntKind.i64.wrap ((n : Int).tdiv 1048576) = ((n / 1048576 : Nat) : Int) := tdK n 1048576 (by omega)
  have r0 : ((n / 1048576 : Nat) : Int).tmod 16 = ((n / 1048576 % 16 : Nat) : Int) := tmK _ 16
  have l0 : n / 1048576 % 16 < 16 := Nat.mod_lt _ (by decide)
  have q1 : IntKind.i64.wrap ((n : Int).tdiv 65536) = ((n / 65536 : Nat) : Int) := tdK n 65536 (by omega)
  have r1 : ((n / 65536 : Nat) : Int).tmod 16 = ((n / 65536 % 16 : Nat) : Int) := tmK _ 16
  have l1 : n / 65536 % 16 < 16 := Nat.mod_lt _ (by decide)
  have q2 : IntKind.i64.wrap ((n : Int).tdiv 4096) = ((n / 4096 : Nat) : Int) := tdK n 4096 (by omega)
  have r2 : ((n / 4096 : Nat) : Int).tmod 16 = ((n / 4096 % 16 : Nat) : Int) := tmK _ 16
  have l2 : n / 4096 % 16 < 16 := Nat.mod_lt _ (by decide)
  have q3 : IntKind.i64.wrap ((n : Int).tdiv 256) = ((n / 256 : Nat) : Int) := tdK n 256 (by omega)
  have r3 : ((n / 256 : Nat) : Int).tmod 16 = ((n / 256 % 16 : Nat) : Int) := tmK _ 16
  have l3 : n / 256 % 16 < 16 := Nat.mod_lt _ (by decide)
  have q4 : IntKind.i64.wrap ((n : Int).tdiv 16) = ((n / 16 : Nat) : Int) := tdK n 16 (by omega)
  have r4 : ((n / 16 : Nat) : Int).tmod 16 = ((n / 16 % 16 : Nat) : Int) := tmK _ 16
  have l4 : n / 16 % 16 < 16 := Nat.mod_lt _ (by decide)
  have q5 : IntKind.i64.wrap ((n : Int).tdiv 1) = ((n / 1 : Nat) : Int) := tdK n 1 (by omega)
  have r5 : ((n / 1 : Nat) : Int).tmod 16 = ((n / 1 % 16 : Nat) : Int) := tmK _ 16
  have l5 : n / 1 % 16 < 16 := Nat.mod_lt _ (by decide)
  have e0 : n / 1048576 = n / 1048576 % 16 := by omega
  have e5 : n % 16 = n / 1 % 16 := by rw [Nat.div_one]
  rw [e0, e5] at h
  obtain ⟨a0, h0⟩ : ∃ a, n / 1048576 % 16 = a := ⟨_, rfl⟩
  rw [h0] at r0 l0 h
  have s0 := hexSl a0 l0
  have kk0 : IntKind.i64.wrap ((a0 : Int) + 1) = ((a0 + 1 : Nat) : Int) := by rw [IntWalk.i64_in _ (by omega)]; omega
  have x0 : ((a0 + 1 : Nat) : Int) ≤ ((16 : Nat) : Int) := by omega
  have y0 : (a0 : Int) ≤ ((a0 + 1 : Nat) : Int) := by omega
  obtain ⟨a1, h1⟩ : ∃ a, n / 65536 % 16 = a := ⟨_, rfl⟩
  rw [h1] at r1 l1 h
  have s1 := hexSl a1 l1
  have kk1 : IntKind.i64.wrap ((a1 : Int) + 1) = ((a1 + 1 : Nat) : Int) := by rw [IntWalk.i64_in _ (by omega)]; omega
  have x1 : ((a1 + 1 : Nat) : Int) ≤ ((16 : Nat) : Int) := by omega
  have y1 : (a1 : Int) ≤ ((a1 + 1 : Nat) : Int) := by omega
  obtain ⟨a2, h2⟩ : ∃ a, n / 4096 % 16 = a := ⟨_, rfl⟩
  rw [h2] at r2 l2 h
  have s2 := hexSl a2 l2
  have kk2 : IntKind.i64.wrap ((a2 : Int) + 1) = ((a2 + 1 : Nat) : Int) := by rw [IntWalk.i64_in _ (by omega)]; omega
  have x2 : ((a2 + 1 : Nat) : Int) ≤ ((16 : Nat) : Int) := by omega
  have y2 : (a2 : Int) ≤ ((a2 + 1 : Nat) : Int) := by omega
  obtain ⟨a3, h3⟩ : ∃ a, n / 256 % 16 = a := ⟨_, rfl⟩
  rw [h3] at r3 l3 h
  have s3 := hexSl a3 l3
  have kk3 : IntKind.i64.wrap ((a3 : Int) + 1) = ((a3 + 1 : Nat) : Int) := by rw [IntWalk.i64_in _ (by omega)]; omega
  have x3 : ((a3 + 1 : Nat) : Int) ≤ ((16 : Nat) : Int) := by omega
  have y3 : (a3 : Int) ≤ ((a3 + 1 : Nat) : Int) := by omega
  obtain ⟨a4, h4⟩ : ∃ a, n / 16 % 16 = a := ⟨_, rfl⟩
  rw [h4] at r4 l4 h
  have s4 := hexSl a4 l4
  have kk4 : IntKind.i64.wrap ((a4 : Int) + 1) = ((a4 + 1 : Nat) : Int) := by rw [IntWalk.i64_in _ (by omega)]; omega
  have x4 : ((a4 + 1 : Nat) : Int) ≤ ((16 : Nat) : Int) := by omega
  have y4 : (a4 : Int) ≤ ((a4 + 1 : Nat) : Int) := by omega
  obtain ⟨a5, h5⟩ : ∃ a, n / 1 % 16 = a := ⟨_, rfl⟩
  rw [h5] at r5 l5 h
  have s5 := hexSl a5 l5
  have kk5 : IntKind.i64.wrap ((a5 : Int) + 1) = ((a5 + 1 : Nat) : Int) := by rw [IntWalk.i64_in _ (by omega)]; omega
  have x5 : ((a5 + 1 : Nat) : Int) ≤ ((16 : Nat) : Int) := by omega
  have y5 : (a5 : Int) ≤ ((a5 + 1 : Nat) : Int) := by omega
  clear hn e0 e5 h0 l0 h1 l1 h2 l2 h3 l3 h4 l4 h5 l5
  refine enter Tryz.func28 rfl (by decide +kernel) (by rw [Tryz.ntmps28]; simp) (by rw [Tryz.ntmps28]; decide) (fun hO => ?_); rw [Tryz.ntmps28]
  repeat' first | refine st ?_ | (refine ca ?_; first | apply hc | apply hr) | (refine br ?_ ?_; all_goals (intro hb; try simp only [Bool.not_eq_true', Bool.not_eq_false'] at hb)) | apply x_loop | apply x_lp | refine sd ?_ | apply pl_nil | (apply c_end; (· decide +kernel)) | refine bd ?_ ?_ | (refine cd ?_; first | apply hc | apply hr) | fail
  (apply f_ret; iterate 7 (· simp only [go_sem, *, Tryz.results28]; try rfl))
  exact h
end Go.Proofs.YtfnnjkbhmoomjaaGreatDoor
namespace Go.Proofs.YtfnnjkbhmoomjaaGreatDoor
open Go Go.Fen
set_option linter.unusedSimpArgs false
set_option linter.unusedVariables false
attribute [local irreducible] RunX WP ACall AnyP OpA ProtL afterCall afterOp
set_option maxRecDepth 8000
end Go.Proofs.YtfnnjkbhmoomjaaGreatDoor
namespace Go.Proofs.YtfnnjkbhmoomjaaGreatDoor
open Go Go.Fen
set_option linter.unusedSimpArgs false
set_option linter.unusedVariables false
attribute [local irreducible] RunX WP ACall AnyP OpA ProtL afterCall afterOp
set_option maxRecDepth 8000
def psx (s : List Nat) (p : Nat) : Nat → Nat
  | 0 => 0
  | t + 1 => 2 * psx s p t + bitR s (p + t)
theorem psx_six (s : List Nat) (p : Nat) : psx s p 6 = sextR s p := rfl
theorem bit_lt (s : List Nat) (k : Nat) : bitR s k < 2 := by
  unfold bitR
  split
  · exact Nat.mod_lt _ (by decide)
  · decide
theorem psx_lt (s : List Nat) (p : Nat) : ∀ t, psx s p t < 2 ^ t
  | 0 => by simp [psx]
  | t + 1 => by
    have := psx_lt s p t
    have := bit_lt s (p + t)
    rw [psx, Nat.pow_succ]
    omega
theorem pow_at : ∀ m : Nat, m < 8 → ([AV.int .i64 128, .int .i64 64, .int .i64 32, .int .i64 16, .int .i64 8, .int .i64 4, .int .i64 2, .int .i64 1] : List AV)[m]? = some (.int .i64 ((2 ^ (7 - m) : Nat) : Int)) := by
  intro m hm
  match m, hm with
  | 0, _ => rfl
  | 1, _ => rfl
  | 2, _ => rfl
  | 3, _ => rfl
  | 4, _ => rfl
  | 5, _ => rfl
  | 6, _ => rfl
  | 7, _ => rfl
theorem sign_at : ∀ v, v < 64 → ([65, 66, 67, 68, 69, 70, 71, 72, 73, 74, 75, 76, 77, 78, 79, 80, 81, 82, 83, 84, 85, 86, 87, 88, 89, 90, 97, 98, 99, 100, 101, 102, 103, 104, 105, 106, 107, 108, 109, 110, 111, 112, 113, 114, 115, 116, 117, 118, 119, 120, 121, 122, 48, 49, 50, 51, 52, 53, 54, 55, 56, 57, 43, 47] : List UInt8)[v]? = some (signC v) := by decide +kernel
theorem encB_at {s : List UInt8} {j : Nat} (h : 6 * j < 8 * s.length) : sextR (s.map UInt8.toNat) (6 * j) < 64 ∧ (encB s)[j]? = some (signC (sextR (s.map UInt8.toNat) (6 * j))) := by
  have e := enc_ref (s.map UInt8.toNat) (toNat_lt s) j
  rw [if_pos (by simpa using h)] at e
  refine ⟨psx_lt _ _ 6, ?_⟩
  unfold encB
  rw [List.getElem?_map, e]
  rfl
end Go.Proofs.YtfnnjkbhmoomjaaGreatDoor
namespace Go.Proofs.YtfnnjkbhmoomjaaGreatDoor
open Go Go.Fen
set_option linter.unusedSimpArgs false
set_option linter.unusedVariables false
attribute [local irreducible] RunX WP ACall AnyP OpA ProtL afterCall afterOp
set_option maxRecDepth 8000
set_option maxHeartbeats 8000000 in
theorem rBare (w0 : World) (S : List Blk) (s : List UInt8) (hs : s.length ≤ 100000) (R : AOut → List Blk → Prop) (h : R (.ret (.str (encB s))) S) : ACall Tryz.prog w0 60 [.str s] S R := by
  have hel : (encB s).length = (8 * s.length + 5) / 6 := by unfold encB; simp [enc_len]
  have hlm : IntKind.i64.wrap (8 * (s.length : Int)) = ((8 * s.length : Nat) : Int) := by rw [IntWalk.i64_in _ (by omega)]; omega
  obtain ⟨t, ht⟩ : ∃ t, s.map UInt8.toNat = t := ⟨_, rfl⟩
  have hat := fun j hj => encB_at (s := s) (j := j) hj
  rw [ht] at hat
  obtain ⟨L, hL⟩ : ∃ L, encB s = L := ⟨_, rfl⟩
  rw [hL] at h hel hat
  have Hat := Lib.hid hat
  clear hat hL
  refine enter Tryz.func60 rfl (by decide +kernel) (by rw [Tryz.ntmps60]; simp) (by rw [Tryz.ntmps60]; decide) (fun hO => ?_); rw [Tryz.ntmps60]
  repeat' first | refine st ?_ | (refine br ?_ ?_; all_goals (intro hb; try simp only [Bool.not_eq_true', Bool.not_eq_false'] at hb)) | fail
  refine x_thaw (t := 3) 5 1 (by (simp only [go_sem, *]; try rfl)) (by decide) ?_
  try simp only [go_sem, *]
  refine x_ind (fun (j : Nat) env S' => j ≤ L.length ∧ env 1000000 = .dfr [] ∧ env 0 = .str s ∧ env 3 = .sown S.length j j ∧ env 4 = .int .i64 ((6 * j : Nat) : Int) ∧
    S' = S ++ [.arr 5 1 0 j ((L.take j).map bAV)]) (fun j => L.length - j) 0 ?_ ?_
  · exact ⟨Nat.zero_le _, by (simp only [go_sem, *]; try rfl), by (simp only [go_sem, *]; try rfl), by (simp only [go_sem, *]; try rfl), by (simp only [go_sem, *]; try rfl), rfl⟩
  · rintro j env S' ⟨hj, e0, f0, f3, f4, rfl⟩ IH
    have HI := Lib.hid IH
    have H := Lib.hid h
    clear IH h
    by_cases hlt : j < L.length
    · have hlt8 : 6 * j < 8 * s.length := by omega
      have d0 : decide (((6 * j : Nat) : Int) < ((8 * s.length : Nat) : Int)) = true := by simp; omega
      have hw6 : IntKind.i64.wrap (((6 * j : Nat) : Int) + 6) = ((6 * (j + 1) : Nat) : Int) := by rw [IntWalk.i64_in _ (by omega)]; omega
      have hlen : ((L.take j).map bAV).length = j := by simp; omega
      have hjn : j ≤ 1000000 := by omega
      repeat' first | refine st ?_ | (refine br ?_ ?_; all_goals (intro hb; try simp only [Bool.not_eq_true', Bool.not_eq_false'] at hb)) | fail
      refine x_ind (fun (k : Nat) env2 S2 => k ≤ 6 ∧ env2 1000000 = .dfr [] ∧ env2 0 = .str s ∧ env2 3 = .sown S.length j j ∧ env2 4 = .int .i64 ((6 * j : Nat) : Int) ∧ env2 5 = .int .i64 (psx t (6 * j) k : Nat) ∧ env2 6 = .int .i64 ((6 * j + k : Nat) : Int) ∧
        S2 = S ++ [.arr 5 1 0 j ((L.take j).map bAV)]) (fun k => 6 - k) 0 ?_ ?_
      · exact ⟨Nat.zero_le _, by (simp only [go_sem, *]; try rfl), by (simp only [go_sem, *]; try rfl), by (simp only [go_sem, *]; try rfl), by (simp only [go_sem, *]; try rfl), by (simp only [go_sem, *]; try rfl), by (simp only [go_sem, *]; try rfl), rfl⟩
      · rintro k env2 S2 ⟨hk, g0, h0, h3, h4, h5, h6, rfl⟩ IH2
        have HI2 := Lib.hid IH2
        clear IH2 e0 f0 f3 f4
        by_cases hk6 : k < 6
        · have d1 : decide (((6 * j + k : Nat) : Int) < ((6 * (j + 1) : Nat) : Int)) = true := by simp; omega
          have hp := psx_lt t (6 * j) k
          have hp6 : 2 ^ k ≤ 64 := Nat.pow_le_pow_right (by decide : 2 > 0) (show k ≤ 6 from hk)
          have hps : psx t (6 * j) (k + 1) = 2 * psx t (6 * j) k + bitR t (6 * j + k) := rfl
          generalize psx t (6 * j) k = n at h5 hp hps
          have hwk : IntKind.i64.wrap (((6 * j + k : Nat) : Int) + 1) = ((6 * j + (k + 1) : Nat) : Int) := by rw [IntWalk.i64_in _ (by omega)]; omega
          have hq : IntKind.i64.wrap (((6 * j + k : Nat) : Int).tdiv 8) = (((6 * j + k) / 8 : Nat) : Int) := tdK _ 8 (by omega)
          have hm : ((6 * j + k : Nat) : Int).tmod 8 = (((6 * j + k) % 8 : Nat) : Int) := tmK _ 8
          have hm8 : (6 * j + k) % 8 < 8 := Nat.mod_lt _ (by decide)
          have k1 : IntKind.i64.wrap (2 * (n : Int)) = ((2 * n : Nat) : Int) := by rw [IntWalk.i64_in _ (by omega)]; omega
          by_cases hin : (6 * j + k) / 8 < s.length
          · obtain ⟨c, hx⟩ : ∃ c, s[(6 * j + k) / 8]? = some c := ⟨_, List.getElem?_eq_getElem hin⟩
            have hct : c.toNat < 256 := c.toNat_lt
            have hb : bitR t (6 * j + k) = c.toNat / 2 ^ (7 - (6 * j + k) % 8) % 2 := by
              unfold bitR
              rw [← ht, List.getElem?_map, hx]
              rfl
            rw [hb] at hps
            have d2 : decide ((((6 * j + k) / 8 : Nat) : Int) < (s.length : Int)) = true := by simp; omega
            have hpa := pow_at _ hm8
            obtain ⟨m, hmm⟩ : ∃ m, (6 * j + k) % 8 = m := ⟨_, rfl⟩
            obtain ⟨w, hww⟩ : ∃ w, 2 ^ (7 - m) = w := ⟨_, rfl⟩
            rw [hmm] at hm hpa hps
            rw [hww] at hpa hps
            obtain ⟨rr, hdr⟩ : ∃ rr, List.drop m ([AV.int .i64 128, .int .i64 64, .int .i64 32, .int .i64 16, .int .i64 8, .int .i64 4, .int .i64 2, .int .i64 1] : List AV) = .int .i64 (w : Int) :: rr := by
              obtain ⟨g1, g2⟩ := List.getElem?_eq_some_iff.1 hpa
              exact ⟨_, by rw [List.drop_eq_getElem_cons g1, g2]⟩
            have hdr1 : List.drop (m * 1) ([AV.int .i64 128, .int .i64 64, .int .i64 32, .int .i64 16, .int .i64 8, .int .i64 4, .int .i64 2, .int .i64 1] : List AV) = .int .i64 (w : Int) :: rr := by rw [Nat.mul_one]; exact hdr
            have hmi : (m : Int) < 8 := by omega
            have hmi2 : (m : Int) < ((8 : Nat) : Int) := by omega
            have hw0 : 0 < w := by rw [← hww]; exact Nat.pos_of_ne_zero (by simp)
            have hwz : ((w : Int) = 0) = False := by simp; omega
            have kc : IntKind.i64.wrap (c.toNat : Int) = (c.toNat : Int) := IntWalk.i64_in _ (by omega)
            have k2 : IntKind.i64.wrap ((c.toNat : Int).tdiv (w : Int)) = ((c.toNat / w : Nat) : Int) := tdK _ w (by omega)
            have k3 : ((c.toNat / w : Nat) : Int).tmod 2 = ((c.toNat / w % 2 : Nat) : Int) := tmK _ 2
            have hb2 : c.toNat / w % 2 < 2 := Nat.mod_lt _ (by decide)
            have k4 : IntKind.i64.wrap (((2 * n : Nat) : Int) + ((c.toNat / w % 2 : Nat) : Int)) = ((2 * n + c.toNat / w % 2 : Nat) : Int) := by rw [IntWalk.i64_in _ (by omega)]; omega
            have Hf := Lib.hid (And.intro hk6 hps)
            have HH := Lib.hid (And.intro hlt (And.intro hjn hlen))
            clear hpa hk hk6 hp hp6 hps hm8 hin hct hb hmm hww hw0 hb2 ht hel hs hlt hlt8 hj hjn
            repeat' first | refine st ?_ | (refine br ?_ ?_; all_goals (intro hb; try simp only [Bool.not_eq_true', Bool.not_eq_false'] at hb)) | refine sd ?_ | apply pl_nil | (apply c_end; (· decide +kernel)) | refine bd ?_ ?_ | fail
            refine x_keep hO 1 [0, 3, 4, 5, 6] rfl (by (simp only [go_sem, *]; try rfl)) (by (simp only [go_sem, *]; try rfl)) (by (simp only [go_sem, *]; try rfl)) ?_
            simp only [List.take_succ_cons, List.take_zero]
            refine HI2.out (k + 1) _ _ (by have := Hf.out.1; omega) ⟨Hf.out.1, ?_, ?_, ?_, ?_, ?_, ?_, rfl⟩
            · (simp only [go_sem, *]; try rfl)
            · (simp only [go_sem, *]; try rfl)
            · (simp only [go_sem, *]; try rfl)
            · (simp only [go_sem, *]; try rfl)
            · rw [Hf.out.2]; (simp only [go_sem, *]; try rfl)
            · (simp only [go_sem, *]; try rfl)
          · have hb : bitR t (6 * j + k) = 0 := by
              unfold bitR
              rw [← ht, List.getElem?_map, List.getElem?_eq_none (by omega)]
              rfl
            rw [hb] at hps
            have d2 : decide ((((6 * j + k) / 8 : Nat) : Int) < (s.length : Int)) = false := by simp; omega
            have k4 : IntKind.i64.wrap (((2 * n : Nat) : Int) + 0) = ((2 * n + 0 : Nat) : Int) := by rw [IntWalk.i64_in _ (by omega)]; omega
            have Hf := Lib.hid (And.intro hk6 hps)
            clear hk hk6 hp hp6 hps hm8 hin hb ht hel hs hlt hlt8 hj hjn
            repeat' first | refine st ?_ | (refine br ?_ ?_; all_goals (intro hb; try simp only [Bool.not_eq_true', Bool.not_eq_false'] at hb)) | refine sd ?_ | apply pl_nil | (apply c_end; (· decide +kernel)) | refine bd ?_ ?_ | fail
            refine x_keep hO 1 [0, 3, 4, 5, 6] rfl (by (simp only [go_sem, *]; try rfl)) (by (simp only [go_sem, *]; try rfl)) (by (simp only [go_sem, *]; try rfl)) ?_
            simp only [List.take_succ_cons, List.take_zero]
            refine HI2.out (k + 1) _ _ (by have := Hf.out.1; omega) ⟨Hf.out.1, ?_, ?_, ?_, ?_, ?_, ?_, rfl⟩
            · (simp only [go_sem, *]; try rfl)
            · (simp only [go_sem, *]; try rfl)
            · (simp only [go_sem, *]; try rfl)
            · (simp only [go_sem, *]; try rfl)
            · rw [Hf.out.2]; (simp only [go_sem, *]; try rfl)
            · (simp only [go_sem, *]; try rfl)
        · have hke : k = 6 := by omega
          subst hke
          have d1 : decide (((6 * j + 6 : Nat) : Int) < ((6 * (j + 1) : Nat) : Int)) = false := by simp; omega
          obtain ⟨hx1, hx2⟩ := Hat.out j hlt8
          rw [psx_six] at h5
          generalize sextR t (6 * j) = v at h5 hx1 hx2
          have hsg := sign_at v hx1
          have htk : L.take (j + 1) = L.take j ++ [signC v] := by rw [List.take_add_one, hx2]; rfl
          have hb1 : (j + 1) * 1 ≤ 140737488355328 := by omega
          have Hf := Lib.hid (And.intro hlt htk)
          clear hk hk6 hx1 hx2 htk ht hel hs hlt hlt8 hj hjn
          repeat' first | refine st ?_ | (refine br ?_ ?_; all_goals (intro hb; try simp only [Bool.not_eq_true', Bool.not_eq_false'] at hb)) | fail
          refine x_keep hO 1 [0, 3, 4] rfl (by (simp only [go_sem, *]; try rfl)) (by (simp only [go_sem, *]; try rfl)) (by (simp only [go_sem, *]; try rfl)) ?_
          simp only [List.take_succ_cons, List.take_zero]
          refine HI.out (j + 1) _ _ (by have := Hf.out.1; omega) ⟨Hf.out.1, ?_, ?_, ?_, ?_, ?_⟩
          · (simp only [go_sem, *]; try rfl)
          · (simp only [go_sem, *]; try rfl)
          · (simp only [go_sem, *]; try rfl)
          · (simp only [go_sem, *]; try rfl)
          · rw [Hf.out.2, List.map_append]; rfl
    · have hje : j = L.length := by omega
      subst hje
      rw [List.take_length]
      have d0 : decide (((6 * L.length : Nat) : Int) < ((8 * s.length : Nat) : Int)) = false := by simp; omega
      have hlen : (L.map bAV).length = L.length := by simp
      have hby := bytesOf_map L
      have hh := H.out
      clear ht hel hs hlt hj HI H
      repeat' first | refine st ?_ | (refine br ?_ ?_; all_goals (intro hb; try simp only [Bool.not_eq_true', Bool.not_eq_false'] at hb)) | fail
      (apply f_ret; iterate 7 (· simp only [go_sem, *, Tryz.results60]; try rfl))
      exact hh
end Go.Proofs.YtfnnjkbhmoomjaaGreatDoor
namespace Go.Proofs.YtfnnjkbhmoomjaaGreatDoor
open Go Go.Fen
set_option linter.unusedSimpArgs false
set_option linter.unusedVariables false
attribute [local irreducible] RunX WP ACall AnyP OpA ProtL afterCall afterOp
set_option maxRecDepth 8000
theorem pad_len (l p : Nat) (h : p ≤ padN l) : (((l + p) % 4 : Nat) = 0 ↔ p = padN l) := by
  unfold padN at *
  omega
set_option maxHeartbeats 4000000 in
theorem rEncode (w0 : World) (S : List Blk) (s : List UInt8) (hs : s.length ≤ 4096) (R : AOut → List Blk → Prop) (h : R (.ret (.tup [.str (encF s), .int .i64 0])) S) : ACall Tryz.prog w0 30 [.str s] S R := by
  have d0 : decide ((4096 : Int) < (s.length : Int)) = false := by simp; omega
  have hb := fun S' => rBare w0 S' s (by omega)
  have hel : (encB s).length ≤ 10000 := by unfold encB; simp [enc_len]; omega
  unfold encF at h
  generalize encB s = B at hb h hel
  clear hs
  refine enter Tryz.func30 rfl (by decide +kernel) (by rw [Tryz.ntmps30]; simp) (by rw [Tryz.ntmps30]; decide) (fun hO => ?_); rw [Tryz.ntmps30]
  repeat' first | refine st ?_ | (refine ca ?_; first | apply hb) | (refine br ?_ ?_; all_goals (intro hb; try simp only [Bool.not_eq_true', Bool.not_eq_false'] at hb)) | fail
  refine x_ind (fun (p : Nat) env S' => p ≤ padN B.length ∧ env 1000000 = .dfr [] ∧ env 4 = .str (B ++ List.replicate p 61) ∧ S' = S) (fun p => padN B.length - p) 0 ?_ ?_
  · exact ⟨Nat.zero_le _, by (simp only [go_sem, *]; try rfl), by rw [List.replicate_zero, List.append_nil]; (simp only [go_sem, *]; try rfl), by (simp only [go_sem, *]; try rfl)⟩
  · rintro p env S' ⟨hp, e0, f4, rfl⟩ IH
    have HI := Lib.hid IH
    have H := Lib.hid h
    clear IH h
    have hl : (B ++ List.replicate p (61 : UInt8)).length = B.length + p := by simp
    have hpl := pad_len B.length p hp
    have hp4 : padN B.length ≤ 3 := by unfold padN; omega
    have hsu : B ++ List.replicate (p + 1) (61 : UInt8) = (B ++ List.replicate p 61) ++ [61] := by rw [List.replicate_succ', List.append_assoc]
    have Hsu := Lib.hid hsu
    clear hsu
    by_cases hpe : p = padN B.length
    · subst hpe
      generalize B ++ List.replicate (padN B.length) (61 : UInt8) = X at f4 hl H
      have hm : (X.length : Int).tmod 4 = ((X.length % 4 : Nat) : Int) := tmK _ 4
      have hz : X.length % 4 = 0 := by rw [hl]; exact hpl.2 rfl
      rw [hz] at hm
      have hm : (X.length : Int).tmod 4 = 0 := hm
      have hh := H.out
      clear hp hl hpl hp4 hz HI H hel Hsu
      repeat' first | refine st ?_ | (refine br ?_ ?_; all_goals (intro hb; try simp only [Bool.not_eq_true', Bool.not_eq_false'] at hb)) | fail
      (apply f_ret; iterate 7 (· simp only [go_sem, *, Tryz.results30]; try rfl))
      exact hh
    · generalize B ++ List.replicate p (61 : UInt8) = X at f4 hl Hsu
      have hm : (X.length : Int).tmod 4 = ((X.length % 4 : Nat) : Int) := tmK _ 4
      have hz : X.length % 4 ≠ 0 := by rw [hl]; exact fun e => hpe (hpl.1 e)
      have d1 : (((X.length % 4 : Nat) : Int) != 0) = true := by rw [bne_iff_ne]; omega
      have ha : X.length + 1 ≤ 9223372036854775807 := by omega
      have Hf := Lib.hid (show p + 1 ≤ padN B.length by omega)
      clear hp hl hpl hp4 hz hpe hel
      repeat' first | refine st ?_ | (refine br ?_ ?_; all_goals (intro hb; try simp only [Bool.not_eq_true', Bool.not_eq_false'] at hb)) | fail
      refine HI.out (p + 1) _ _ (by have := Hf.out; omega) ⟨Hf.out, ?_, ?_, rfl⟩
      · (simp only [go_sem, *]; try rfl)
      · rw [Hsu.out]; (simp only [go_sem, *]; try rfl)
end Go.Proofs.YtfnnjkbhmoomjaaGreatDoor
namespace Go.Proofs.YtfnnjkbhmoomjaaGreatDoor
open Go Go.Fen
set_option linter.unusedSimpArgs false
set_option linter.unusedVariables false
attribute [local irreducible] RunX WP ACall AnyP OpA ProtL afterCall afterOp
set_option maxRecDepth 8000
def dst (V : List Nat) (i : Nat) : EncS := (V.take i).foldl decStep ⟨[], 0, 0⟩
def InvD (q : EncS) : Prop := (q.wait = 0 ∧ q.rest = 0) ∨ (q.wait = 6 ∧ q.rest < 64) ∨ (q.wait = 4 ∧ q.rest < 16) ∨ (q.wait = 2 ∧ q.rest < 4)
theorem inv_step {q : EncS} {v : Nat} (h : InvD q) (hv : v < 64) : InvD (decStep q v) ∧ (decStep q v).out.length ≤ q.out.length + 1 := by
  obtain ⟨o, w, r⟩ := q
  unfold InvD decStep at *
  simp only at *
  rcases h with ⟨rfl, rfl⟩ | ⟨rfl, h⟩ | ⟨rfl, h⟩ | ⟨rfl, h⟩ <;> simp <;> omega
end Go.Proofs.YtfnnjkbhmoomjaaGreatDoor
namespace Go.Proofs.YtfnnjkbhmoomjaaGreatDoor
open Go Go.Fen
set_option linter.unusedSimpArgs false
set_option linter.unusedVariables false
attribute [local irreducible] RunX WP ACall AnyP OpA ProtL afterCall afterOp
set_option maxRecDepth 8000
end Go.Proofs.YtfnnjkbhmoomjaaGreatDoor
namespace Go.Proofs.YtfnnjkbhmoomjaaGreatDoor
open Go Go.Fen
set_option linter.unusedSimpArgs false
set_option linter.unusedVariables false
attribute [local irreducible] RunX WP ACall AnyP OpA ProtL afterCall afterOp
set_option maxRecDepth 8000
def Ac.av (a : Ac) : AV := .agg [.int .i64 a.kind, .int .i64 a.n, .int .i64 a.m, .int .i64 a.ck, .int .i64 a.cn, .str a.text]
def parV : Option Ac → AV
  | some a => .tup [a.av, .bool true]
  | none => .tup [zeroA.av, .bool false]
theorem cut_len {s w r : List UInt8} (h : cutO s = some (w, r)) : w.length ≤ s.length ∧ r.length ≤ s.length := by
  unfold cutO at h
  split at h
  · cases h
  · cases h
    have htd := congrArg List.length (List.takeWhile_append_dropWhile (p := fun b => b != 59) (l := s))
    rw [List.length_append] at htd
    rw [List.length_drop]
    omega
end Go.Proofs.YtfnnjkbhmoomjaaGreatDoor
namespace Go.Proofs.YtfnnjkbhmoomjaaGreatDoor
open Go Go.Fen
set_option linter.unusedSimpArgs false
set_option linter.unusedVariables false
attribute [local irreducible] RunX WP ACall AnyP OpA ProtL afterCall afterOp
set_option maxRecDepth 8000
def digL (n : Nat) : List UInt8 := if n < 10 then [UInt8.ofNat (48 + n)] else if n < 100 then [UInt8.ofNat (48 + n / 10), UInt8.ofNat (48 + n % 10)] else [UInt8.ofNat (48 + n / 10 / 10), UInt8.ofNat (48 + n / 10 % 10), UInt8.ofNat (48 + n % 10)]
theorem itoa_dig : ∀ n : Nat, n < 256 → Lib.itoa (n : Int) = digL n := by decide +kernel
theorem rDig1 (w0 : World) (S : List Blk) (n : Nat) (hn : n < 10) (R : AOut → List Blk → Prop) (h : R (.ret (.str [UInt8.ofNat (48 + n)])) S) : ACall Tryz.prog w0 29 [.int .i64 n] S R := by
  have d1 : decide ((n : Int) < 10) = true := by simp; omega
  have k1 : IntKind.i64.wrap (48 + (n : Int)) = ((48 + n : Nat) : Int) := by rw [IntWalk.i64_in _ (by omega)]; omega
  have k2 : IntKind.u8.wrap ((48 + n : Nat) : Int) = ((48 + n : Nat) : Int) := IntWalk.u8_in _ (by omega)
  clear hn
  refine enter Tryz.func29 rfl (by decide +kernel) (by rw [Tryz.ntmps29]; simp) (by rw [Tryz.ntmps29]; decide) (fun hO => ?_); rw [Tryz.ntmps29]
  repeat' first | refine st ?_ | (refine br ?_ ?_; all_goals (intro hb; try simp only [Bool.not_eq_true', Bool.not_eq_false'] at hb)) | fail
  (apply f_ret; iterate 7 (· simp only [go_sem, *, Tryz.results29]; try rfl))
  exact h
theorem rDig2 (w0 : World) (S : List Blk) (n : Nat) (h1 : 10 ≤ n) (hn : n < 100) (R : AOut → List Blk → Prop) (h : R (.ret (.str [UInt8.ofNat (48 + n / 10), UInt8.ofNat (48 + n % 10)])) S) : ACall Tryz.prog w0 29 [.int .i64 n] S R := by
  have d1 : decide ((n : Int) < 10) = false := by simp; omega
  have k1 : IntKind.i64.wrap ((n : Int).tdiv 10) = ((n / 10 : Nat) : Int) := tdK n 10 (by omega)
  have k2 : (n : Int).tmod 10 = ((n % 10 : Nat) : Int) := tmK n 10
  have c1 := fun S' => rDig1 w0 S' (n / 10) (by omega)
  have c2 := fun S' => rDig1 w0 S' (n % 10) (by omega)
  clear h1 hn
  refine enter Tryz.func29 rfl (by decide +kernel) (by rw [Tryz.ntmps29]; simp) (by rw [Tryz.ntmps29]; decide) (fun hO => ?_); rw [Tryz.ntmps29]
  repeat' first | refine st ?_ | (refine ca ?_; first | apply c1 | apply c2) | (refine br ?_ ?_; all_goals (intro hb; try simp only [Bool.not_eq_true', Bool.not_eq_false'] at hb)) | fail
  (apply f_ret; iterate 7 (· simp only [go_sem, *, Tryz.results29]; try rfl))
  exact h
theorem rDig (w0 : World) (S : List Blk) (n : Nat) (hn : n < 256) (R : AOut → List Blk → Prop) (h : R (.ret (.str (Lib.itoa (n : Int)))) S) : ACall Tryz.prog w0 29 [.int .i64 n] S R := by
  rw [itoa_dig n hn] at h
  unfold digL at h
  by_cases h1 : n < 10
  · rw [if_pos h1] at h; exact rDig1 w0 S n h1 R h
  rw [if_neg h1] at h
  by_cases h2 : n < 100
  · rw [if_pos h2] at h; exact rDig2 w0 S n (by omega) h2 R h
  rw [if_neg h2] at h
  have d1 : decide ((n : Int) < 10) = false := by simp; omega
  have k1 : IntKind.i64.wrap ((n : Int).tdiv 10) = ((n / 10 : Nat) : Int) := tdK n 10 (by omega)
  have k2 : (n : Int).tmod 10 = ((n % 10 : Nat) : Int) := tmK n 10
  have c1 := fun S' => rDig2 w0 S' (n / 10) (by omega) (by omega)
  have c2 := fun S' => rDig1 w0 S' (n % 10) (by omega)
  clear h1 h2 hn
  refine enter Tryz.func29 rfl (by decide +kernel) (by rw [Tryz.ntmps29]; simp) (by rw [Tryz.ntmps29]; decide) (fun hO => ?_); rw [Tryz.ntmps29]
  repeat' first | refine st ?_ | (refine ca ?_; first | apply c1 | apply c2) | (refine br ?_ ?_; all_goals (intro hb; try simp only [Bool.not_eq_true', Bool.not_eq_false'] at hb)) | fail
  (apply f_ret; iterate 7 (· simp only [go_sem, *, Tryz.results29]; try rfl))
  exact h
def printV : Option (List UInt8) → AV
  | some s => .tup [.str s, .int .i64 0]
  | none => .tup [.str [], .int .i64 2]
set_option maxHeartbeats 8000000 in
theorem rPrint (w0 : World) (S : List Blk) (a : Ac) (hs : a.text.length ≤ 10000) (R : AOut → List Blk → Prop) (h : R (.ret (printV (printO a))) S) : ACall Tryz.prog w0 11 [a.av] S R := by
  have bad : printO a = none → R (.ret (.tup [.str [], .int .i64 2])) S := fun e => by rw [e] at h; exact h
  have good : ∀ s, printO a = some s → R (.ret (.tup [.str s, .int .i64 0])) S := fun s e => by rw [e] at h; exact h
  clear h
  obtain ⟨k, n, m, ck, cn, t⟩ := a
  unfold Ac.av
  simp only at hs ⊢
  have hk : k = 44 ∨ k = 45 ∨ k = 46 ∨ (k ≠ 44 ∧ k ≠ 45 ∧ k ≠ 46) := by omega
  rcases hk with rfl | rfl | rfl | ⟨k1, k2, k3⟩
  · by_cases hz : n = 0 ∧ m = 0 ∧ ck = 0 ∧ cn = 0
    · obtain ⟨rfl, rfl, rfl, rfl⟩ := hz
      have ht := fun S' => rTitle w0 S' t (by omega)
      have hl : 2 + t.length ≤ 9223372036854775807 := by omega
      cases htb : titleB t with
      | true =>
        rw [htb] at ht
        have hh := good (50 :: 59 :: t) (by unfold printO; rw [if_pos ⟨rfl, htb⟩])
        clear bad good htb hs
        refine enter Tryz.func11 rfl (by decide +kernel) (by rw [Tryz.ntmps11]; simp) (by rw [Tryz.ntmps11]; decide) (fun hO => ?_); rw [Tryz.ntmps11]
        repeat' first | refine st ?_ | (refine ca ?_; first | apply ht) | (refine br ?_ ?_; all_goals (intro hb; try simp only [Bool.not_eq_true', Bool.not_eq_false'] at hb)) | fail
        (apply f_ret; iterate 7 (· simp only [go_sem, *, Tryz.results11]; try rfl))
        exact hh
      | false =>
        rw [htb] at ht
        have hh := bad (by unfold printO; rw [if_neg (by simp [htb]), if_neg (by simp), if_neg (by simp)])
        clear bad good htb hs
        refine enter Tryz.func11 rfl (by decide +kernel) (by rw [Tryz.ntmps11]; simp) (by rw [Tryz.ntmps11]; decide) (fun hO => ?_); rw [Tryz.ntmps11]
        repeat' first | refine st ?_ | (refine ca ?_; first | apply ht) | (refine br ?_ ?_; all_goals (intro hb; try simp only [Bool.not_eq_true', Bool.not_eq_false'] at hb)) | fail
        (apply f_ret; iterate 7 (· simp only [go_sem, *, Tryz.results11]; try rfl))
        exact hh
    · have e1 : (n == 0 && (m == 0 && (ck == 0 && cn == 0))) = false := by
        rw [Bool.eq_false_iff]; intro e; simp at e; exact hz e
      have hh := bad (by unfold printO; rw [if_neg (by simp; omega), if_neg (by simp), if_neg (by simp)])
      clear bad good hz hs
      refine enter Tryz.func11 rfl (by decide +kernel) (by rw [Tryz.ntmps11]; simp) (by rw [Tryz.ntmps11]; decide) (fun hO => ?_); rw [Tryz.ntmps11]
      repeat' first | refine st ?_ | (refine br ?_ ?_; all_goals (intro hb; try simp only [Bool.not_eq_true', Bool.not_eq_false'] at hb)) | fail
      (apply f_ret; iterate 7 (· simp only [go_sem, *, Tryz.results11]; try rfl))
      exact hh
  · by_cases hz : m = 0 ∧ t = []
    · obtain ⟨rfl, rfl⟩ := hz
      by_cases hn1 : 0 ≤ n
      · have d1 : decide (0 ≤ n) = true := decide_eq_true hn1
        by_cases hn2 : n ≤ 255
        · have d2 : decide (n ≤ 255) = true := decide_eq_true hn2
          by_cases hck : ck = 2
          · subst hck
            by_cases hcn : 0 ≤ cn ∧ cn ≤ 16777215
            · obtain ⟨nn, rfl⟩ : ∃ nn : Nat, n = nn := ⟨n.toNat, by omega⟩
              obtain ⟨cc, rfl⟩ : ∃ cc : Nat, cn = cc := ⟨cn.toNat, by omega⟩
              have ht := fun S' => rTextOk w0 S' cc (by omega)
              have hd := fun S' => rDig w0 S' nn (by omega)
              have hh := good (52 :: 59 :: (Lib.itoa (nn : Int) ++ 59 :: rgbT cc)) (by unfold printO; rw [if_neg (by simp), if_pos ⟨rfl, ⟨hn1, hn2⟩, hcn⟩]; rfl)
              obtain ⟨_, hil, _⟩ := itoa_num nn (by omega)
              have hrl : (rgbT cc).length = 12 := rfl
              generalize Lib.itoa (nn : Int) = x at hd hh hil
              generalize rgbT cc = y at ht hh hrl
              have hadd : ∀ q : Nat, q ≤ 50 → q + x.length ≤ 9223372036854775807 := fun q hq => by omega
              have ha2 : ([52, 59] ++ x).length + 1 ≤ 9223372036854775807 := by simp; omega
              have ha3 : ([52, 59] ++ x ++ [59]).length + y.length ≤ 9223372036854775807 := by simp; omega
              have hy : x.length + 1 + 1 + 1 ≤ 9223372036854775807 := by omega
              have hy2 : (x ++ [59]).length ≤ 9223372036854775793 := by simp; omega
              have hya : x ++ [59] ++ y = x ++ 59 :: y := by simp
              clear bad good hs hn1 hn2 hcn
              refine enter Tryz.func11 rfl (by decide +kernel) (by rw [Tryz.ntmps11]; simp) (by rw [Tryz.ntmps11]; decide) (fun hO => ?_); rw [Tryz.ntmps11]
              repeat' first | refine st ?_ | (refine ca ?_; first | apply ht | apply hd) | (refine br ?_ ?_; all_goals (intro hb; try simp only [Bool.not_eq_true', Bool.not_eq_false'] at hb)) | fail
              (apply f_ret; iterate 7 (· simp only [go_sem, *, Tryz.results11]; try rfl))
              exact hh
            · have ht := fun S' => rTextBad w0 S' cn hcn
              have hh := bad (by unfold printO; rw [if_neg (by simp), if_neg (by simp; omega), if_neg (by simp)])
              clear bad good hs hn1 hn2 hcn
              refine enter Tryz.func11 rfl (by decide +kernel) (by rw [Tryz.ntmps11]; simp) (by rw [Tryz.ntmps11]; decide) (fun hO => ?_); rw [Tryz.ntmps11]
              repeat' first | refine st ?_ | (refine ca ?_; first | apply ht) | (refine br ?_ ?_; all_goals (intro hb; try simp only [Bool.not_eq_true', Bool.not_eq_false'] at hb)) | fail
              (apply f_ret; iterate 7 (· simp only [go_sem, *, Tryz.results11]; try rfl))
              exact hh
          · have d3 : (ck == 2) = false := by rw [beq_eq_false_iff_ne]; exact hck
            have hh := bad (by unfold printO; rw [if_neg (by simp), if_neg (by simp; omega), if_neg (by simp)])
            clear bad good hs hn1 hn2 hck
            refine enter Tryz.func11 rfl (by decide +kernel) (by rw [Tryz.ntmps11]; simp) (by rw [Tryz.ntmps11]; decide) (fun hO => ?_); rw [Tryz.ntmps11]
            repeat' first | refine st ?_ | (refine br ?_ ?_; all_goals (intro hb; try simp only [Bool.not_eq_true', Bool.not_eq_false'] at hb)) | fail
            (apply f_ret; iterate 7 (· simp only [go_sem, *, Tryz.results11]; try rfl))
            exact hh
        · have d2 : decide (n ≤ 255) = false := decide_eq_false hn2
          have hh := bad (by unfold printO; rw [if_neg (by simp), if_neg (by simp; omega), if_neg (by simp)])
          clear bad good hs hn1 hn2
          refine enter Tryz.func11 rfl (by decide +kernel) (by rw [Tryz.ntmps11]; simp) (by rw [Tryz.ntmps11]; decide) (fun hO => ?_); rw [Tryz.ntmps11]
          repeat' first | refine st ?_ | (refine br ?_ ?_; all_goals (intro hb; try simp only [Bool.not_eq_true', Bool.not_eq_false'] at hb)) | fail
          (apply f_ret; iterate 7 (· simp only [go_sem, *, Tryz.results11]; try rfl))
          exact hh
      · have d1 : decide (0 ≤ n) = false := decide_eq_false hn1
        have hh := bad (by unfold printO; rw [if_neg (by simp), if_neg (by simp; omega), if_neg (by simp)])
        clear bad good hs hn1
        refine enter Tryz.func11 rfl (by decide +kernel) (by rw [Tryz.ntmps11]; simp) (by rw [Tryz.ntmps11]; decide) (fun hO => ?_); rw [Tryz.ntmps11]
        repeat' first | refine st ?_ | (refine br ?_ ?_; all_goals (intro hb; try simp only [Bool.not_eq_true', Bool.not_eq_false'] at hb)) | fail
        (apply f_ret; iterate 7 (· simp only [go_sem, *, Tryz.results11]; try rfl))
        exact hh
    · have e1 : (m == 0 && t == []) = false := by
        rw [Bool.eq_false_iff]; intro e; simp at e; exact hz e
      have hh := bad (by unfold printO; rw [if_neg (by simp), if_neg (by simp; intro q1 q2 q3; exact absurd ⟨q1, q3⟩ hz), if_neg (by simp)])
      clear bad good hz hs
      refine enter Tryz.func11 rfl (by decide +kernel) (by rw [Tryz.ntmps11]; simp) (by rw [Tryz.ntmps11]; decide) (fun hO => ?_); rw [Tryz.ntmps11]
      repeat' first | refine st ?_ | (refine br ?_ ?_; all_goals (intro hb; try simp only [Bool.not_eq_true', Bool.not_eq_false'] at hb)) | fail
      (apply f_ret; iterate 7 (· simp only [go_sem, *, Tryz.results11]; try rfl))
      exact hh
  · by_cases hz : n = 0 ∧ m = 0 ∧ ck = 0 ∧ cn = 0
    · obtain ⟨rfl, rfl, rfl, rfl⟩ := hz
      by_cases hl : t.length ≤ 378
      · have d1 : decide ((t.length : Int) ≤ 378) = true := by simp; omega
        have ht := fun S' => rEncode w0 S' t (by omega)
        have hel := encF_len t
        have hh := good (53 :: 50 :: 59 :: 99 :: 59 :: encF t) (by unfold printO; rw [if_neg (by simp), if_neg (by simp), if_pos ⟨rfl, hl⟩])
        generalize encF t = x at ht hh hel
        have hadd : ∀ q : Nat, q ≤ 50 → q + x.length ≤ 9223372036854775807 := fun q hq => by omega
        clear bad good hs hl hel
        refine enter Tryz.func11 rfl (by decide +kernel) (by rw [Tryz.ntmps11]; simp) (by rw [Tryz.ntmps11]; decide) (fun hO => ?_); rw [Tryz.ntmps11]
        repeat' first | refine st ?_ | (refine ca ?_; first | apply ht) | (refine br ?_ ?_; all_goals (intro hb; try simp only [Bool.not_eq_true', Bool.not_eq_false'] at hb)) | fail
        (apply f_ret; iterate 7 (· simp only [go_sem, *, Tryz.results11]; try rfl))
        exact hh
      · have d1 : decide ((t.length : Int) ≤ 378) = false := by simp; omega
        have hh := bad (by unfold printO; rw [if_neg (by simp), if_neg (by simp), if_neg (by simp; omega)])
        clear bad good hs hl
        refine enter Tryz.func11 rfl (by decide +kernel) (by rw [Tryz.ntmps11]; simp) (by rw [Tryz.ntmps11]; decide) (fun hO => ?_); rw [Tryz.ntmps11]
        repeat' first | refine st ?_ | (refine br ?_ ?_; all_goals (intro hb; try simp only [Bool.not_eq_true', Bool.not_eq_false'] at hb)) | fail
        (apply f_ret; iterate 7 (· simp only [go_sem, *, Tryz.results11]; try rfl))
        exact hh
    · have e1 : (n == 0 && (m == 0 && (ck == 0 && cn == 0))) = false := by
        rw [Bool.eq_false_iff]; intro e; simp at e; exact hz e
      have hh := bad (by unfold printO; rw [if_neg (by simp), if_neg (by simp), if_neg (by simp; omega)])
      clear bad good hz hs
      refine enter Tryz.func11 rfl (by decide +kernel) (by rw [Tryz.ntmps11]; simp) (by rw [Tryz.ntmps11]; decide) (fun hO => ?_); rw [Tryz.ntmps11]
      repeat' first | refine st ?_ | (refine br ?_ ?_; all_goals (intro hb; try simp only [Bool.not_eq_true', Bool.not_eq_false'] at hb)) | fail
      (apply f_ret; iterate 7 (· simp only [go_sem, *, Tryz.results11]; try rfl))
      exact hh
  · have d1 : (k == 44) = false := by rw [beq_eq_false_iff_ne]; exact k1
    have d2 : (k == 45) = false := by rw [beq_eq_false_iff_ne]; exact k2
    have d3 : (k == 46) = false := by rw [beq_eq_false_iff_ne]; exact k3
    have hh := bad (by unfold printO; rw [if_neg (by simp [k1]), if_neg (by simp [k2]), if_neg (by simp [k3])])
    clear bad good k1 k2 k3 hs
    refine enter Tryz.func11 rfl (by decide +kernel) (by rw [Tryz.ntmps11]; simp) (by rw [Tryz.ntmps11]; decide) (fun hO => ?_); rw [Tryz.ntmps11]
    repeat' first | refine st ?_ | (refine br ?_ ?_; all_goals (intro hb; try simp only [Bool.not_eq_true', Bool.not_eq_false'] at hb)) | fail
    (apply f_ret; iterate 7 (· simp only [go_sem, *, Tryz.results11]; try rfl))
    exact hh
end Go.Proofs.YtfnnjkbhmoomjaaGreatDoor
namespace Go.Proofs.YtfnnjkbhmoomjaaGreatDoor
open Go Go.Fen
set_option linter.unusedSimpArgs false
set_option linter.unusedVariables false
attribute [local irreducible] RunX WP ACall AnyP OpA ProtL afterCall afterOp
set_option maxRecDepth 8000
def noneV : AV := .ifc 90 (.agg [])
theorem oMustT (w0 : World) (S : List Blk) (R : AOut → List Blk → Prop) (h : R (.ret (.tup [])) S) : ACall Tryz.prog w0 26 [.bool true] S R := by
  refine enter Tryz.func26 rfl (by decide +kernel) (by rw [Tryz.ntmps26]; simp) (by rw [Tryz.ntmps26]; decide) (fun hO => ?_); rw [Tryz.ntmps26]
  repeat' first | refine st ?_ | (refine br ?_ ?_; all_goals (intro hb; try simp only [Bool.not_eq_true', Bool.not_eq_false'] at hb)) | fail
  (apply f_end; iterate 7 (· simp only [go_sem, *, Tryz.results26]; try rfl))
  exact h
theorem oMustF (w0 : World) (S : List Blk) (R : AOut → List Blk → Prop) (h : R (.panic noneV) S) : ACall Tryz.prog w0 26 [.bool false] S R := by
  refine enter Tryz.func26 rfl (by decide +kernel) (by rw [Tryz.ntmps26]; simp) (by rw [Tryz.ntmps26]; decide) (fun hO => ?_); rw [Tryz.ntmps26]
  repeat' first | refine st ?_ | (refine br ?_ ?_; all_goals (intro hb; try simp only [Bool.not_eq_true', Bool.not_eq_false'] at hb)) | fail
  (apply f_panic; iterate 6 (· simp only [go_sem, *]; try rfl))
  exact h
theorem eqA_fields (k n m ck cn : Int) (t : List UInt8) (k2 n2 m2 ck2 cn2 : Int) (t2 : List UInt8) : (k == k2 && (n == n2 && (m == m2 && ((ck == ck2 && cn == cn2) && t == t2)))) = decide ((⟨k, n, m, ck, cn, t⟩ : Ac) = ⟨k2, n2, m2, ck2, cn2, t2⟩) := by
  rw [Bool.eq_iff_iff]
  simp [and_assoc]
theorem oPlainT (w0 : World) (S : List Blk) (a b : Ac) (hab : a = b) (R : AOut → List Blk → Prop) (h : R (.ret (.tup [])) S) : ACall Tryz.prog w0 49 [a.av, b.av] S R := by
  have hm := oMustT w0
  obtain ⟨k, n, m, ck, cn, t⟩ := a
  obtain ⟨k2, n2, m2, ck2, cn2, t2⟩ := b
  have e := eqA_fields k n m ck cn t k2 n2 m2 ck2 cn2 t2
  rw [decide_eq_true hab] at e
  unfold Ac.av
  simp only
  clear hab
  refine enter Tryz.func49 rfl (by decide +kernel) (by rw [Tryz.ntmps49]; simp) (by rw [Tryz.ntmps49]; decide) (fun hO => ?_); rw [Tryz.ntmps49]
  repeat' first | refine st ?_ | (refine ca ?_; first | apply hm) | (refine br ?_ ?_; all_goals (intro hb; try simp only [Bool.not_eq_true', Bool.not_eq_false'] at hb)) | fail
  (apply f_end; iterate 7 (· simp only [go_sem, *, Tryz.results49]; try rfl))
  exact h
theorem oPlainF (w0 : World) (S : List Blk) (a b : Ac) (hab : a ≠ b) (R : AOut → List Blk → Prop) (h : R (.panic noneV) S) : ACall Tryz.prog w0 49 [a.av, b.av] S R := by
  have hm := oMustF w0
  obtain ⟨k, n, m, ck, cn, t⟩ := a
  obtain ⟨k2, n2, m2, ck2, cn2, t2⟩ := b
  have e := eqA_fields k n m ck cn t k2 n2 m2 ck2 cn2 t2
  rw [decide_eq_false hab] at e
  unfold Ac.av
  simp only
  unfold noneV at hm h
  clear hab
  refine enter Tryz.func49 rfl (by decide +kernel) (by rw [Tryz.ntmps49]; simp) (by rw [Tryz.ntmps49]; decide) (fun hO => ?_); rw [Tryz.ntmps49]
  repeat' first | refine st ?_ | (refine ca ?_; first | apply hm) | (refine br ?_ ?_; all_goals (intro hb; try simp only [Bool.not_eq_true', Bool.not_eq_false'] at hb)) | fail
  (apply f_panic; iterate 6 (· simp only [go_sem, *]; try rfl))
  exact h
end Go.Proofs.YtfnnjkbhmoomjaaGreatDoor
namespace Go.Proofs.YtfnnjkbhmoomjaaGreatDoor
open Go Go.Fen
set_option linter.unusedSimpArgs false
set_option linter.unusedVariables false
attribute [local irreducible] RunX WP ACall AnyP OpA ProtL afterCall afterOp
set_option maxRecDepth 8000
set_option maxHeartbeats 4000000 in
theorem oTitle (w0 : World) (S : List Blk) (s : List UInt8) (hs : s.length ≤ 10000000) (R : AOut → List Blk → Prop) (h : R (if titleB s then .ret (.tup []) else .panic noneV) S) : ACall Tryz.prog w0 50 [.str s] S R := by
  have hco := fun S' => uCodes w0 S' s (by omega)
  have hcl := codesB_lt s
  have hte := fun S' => uText w0 S' (codesB s) (fun c hc => by have := hcl.1 c hc; omega) (by omega)
  have hll : (codesB s).length ≤ 100000000 := by omega
  unfold titleB nameT at h
  generalize codesB s = l at h hco hte hll
  have hmT := oMustT w0
  have hmF := oMustF w0
  unfold noneV at hmF h
  have bad : (decide (s.length ≤ 510) && (l.all okT && decide (textS l = s))) = false → R (.panic (.ifc 90 (.agg []))) S := fun e => by rw [e] at h; exact h
  have good : (decide (s.length ≤ 510) && (l.all okT && decide (textS l = s))) = true → R (.ret (.tup [])) S := fun e => by rw [e] at h; exact h
  clear h hcl
  by_cases h40 : s.length ≤ 510
  case neg =>
    have d0 : decide ((s.length : Int) ≤ 510) = false := by simp; omega
    have hh := bad (by rw [decide_eq_false h40, Bool.false_and])
    clear h40 hs hte bad good hmT hll
    refine enter Tryz.func50 rfl (by decide +kernel) (by rw [Tryz.ntmps50]; simp) (by rw [Tryz.ntmps50]; decide) (fun hO => ?_); rw [Tryz.ntmps50]
    repeat' first | refine st ?_ | (refine ca ?_; first | apply hco | apply hmF) | (refine br ?_ ?_; all_goals (intro hb; try simp only [Bool.not_eq_true', Bool.not_eq_false'] at hb)) | fail
    (apply f_panic; iterate 6 (· simp only [go_sem, *]; try rfl))
    exact hh
  have d0 : decide ((s.length : Int) ≤ 510) = true := by simp; omega
  rw [decide_eq_true h40, Bool.true_and] at bad good
  by_cases htx : textS l = s
  case neg =>
    have d1 : (textS l == s) = false := by rw [beq_eq_false_iff_ne]; exact htx
    have hh := bad (by rw [decide_eq_false htx, Bool.and_false])
    clear h40 hs bad good hmT hll htx
    refine enter Tryz.func50 rfl (by decide +kernel) (by rw [Tryz.ntmps50]; simp) (by rw [Tryz.ntmps50]; decide) (fun hO => ?_); rw [Tryz.ntmps50]
    repeat' first | refine st ?_ | (refine ca ?_; first | apply hco | apply hte | apply hmF) | (refine br ?_ ?_; all_goals (intro hb; try simp only [Bool.not_eq_true', Bool.not_eq_false'] at hb)) | fail
    (apply f_panic; iterate 6 (· simp only [go_sem, *]; try rfl))
    exact hh
  have d1 : (textS l == s) = true := by rw [beq_iff_eq]; exact htx
  rw [decide_eq_true htx, Bool.and_true] at bad good
  have Bad := Lib.hid bad
  have Good := Lib.hid good
  have HmF := Lib.hid hmF
  clear h40 hs htx bad good hmF
  refine enter Tryz.func50 rfl (by decide +kernel) (by rw [Tryz.ntmps50]; simp) (by rw [Tryz.ntmps50]; decide) (fun hO => ?_); rw [Tryz.ntmps50]
  repeat' first | refine st ?_ | (refine ca ?_; first | apply hco | apply hte | apply hmT) | (refine br ?_ ?_; all_goals (intro hb; try simp only [Bool.not_eq_true', Bool.not_eq_false'] at hb)) | fail
  refine x_ind (fun (k : Nat) env S' => k ≤ l.length ∧ (∀ j c, j < k → l[j]? = some c → okT c = true) ∧ env 1000000 = .dfr [] ∧ env 17 = .sval false (l.map Co) ∧ env 18 = .int .i64 l.length ∧ env 19 = .int .i64 (k : Int) ∧ S' = S) (fun k => l.length - k) 0 ?_ ?_
  · exact ⟨Nat.zero_le _, fun j c hj => absurd hj (by omega), by (simp only [go_sem, *]; try rfl), by (simp only [go_sem, *]; try rfl), by (simp only [go_sem, *]; try rfl), by (simp only [go_sem, *]; try rfl), rfl⟩
  · rintro k env S' ⟨hk, hall, e0, e17, e18, e19, rfl⟩ IH
    have HI := Lib.hid IH
    have Hall := Lib.hid hall
    clear IH hall hco hte
    by_cases hlt : k < l.length
    · obtain ⟨c, hx⟩ : ∃ c, l[k]? = some c := ⟨_, List.getElem?_eq_getElem hlt⟩
      have h1 : decide ((k : Int) < (l.length : Int)) = true := by simpa using hlt
      have hw : IntKind.i64.wrap ((k : Int) + 1) = (k : Int) + 1 := IntWalk.i64_in _ (by omega)
      have bad : okT c = false → R (.panic (.ifc 90 (.agg []))) S' := fun hc => Bad.out (by
        rw [List.all_eq_false]
        exact ⟨c, List.mem_of_getElem? hx, by simp [hc]⟩)
      have good : okT c = true → ∀ j d, j < k + 1 → l[j]? = some d → okT d = true := fun hc j d hj hd => by
        by_cases e : j = k
        · rw [e, hx] at hd; cases hd; exact hc
        · exact Hall.out j d (by omega) hd
      have Bad2 := Lib.hid bad
      have Good2 := Lib.hid good
      have Hlt := Lib.hid hlt
      clear bad good hlt hk hll
      by_cases q1 : c < 32
      · have d2 : decide ((32 : Int) ≤ (c : Int)) = false := by simp; omega
        have hc : okT c = false := by unfold okT; rw [decide_eq_false (by omega)]; rfl
        have hb := Bad2.out hc
        have hmF := HmF.out
        clear q1 hc hmT
        repeat' first | apply x_seq | apply x_skip | apply x_block | apply x_exit | apply x_ret | apply x_ops_nil | apply p_blk | apply p_exit_it | apply p_exit_hit | apply p_ret_it | apply p_ret_blk | apply p_panic_it | apply p_panic_blk | apply p_end | (apply p_exit_miss; (· rfl)) | (apply x_region; simp only [List.toList_toArray]) | (apply x_step0; (· rfl); (· simp only [go_sem, *, Co]; try rfl); (· rfl); simp only [putA]) | (apply ac_ret; simp only [putA]) | apply ac_panic | (apply x_callA []; (· simp only [go_sem, *, Co]; try rfl); (· rfl); (· simp only [go_sem, *, Co]; try rfl); (· rfl); (iterate 2 (· simp only [go_sem, *, Co]; try rfl)); (first | apply hmF); simp only [afterCall, putA]) | (apply x_panic; (· simp only [go_sem, *, Co]; try rfl); (· rfl); (· simp only [go_sem, *, Co]; try rfl)) | (apply x_step; (iterate 2 (· simp only [go_sem, *, Co]; try rfl)); (· rfl); simp only [putA]) | (apply x_unwanted; (· simp only [go_sem, *, Co]; try rfl); (· rfl); simp only [putA]) | (apply x_condT; (· simp only [go_sem, *, Co]; try rfl)) | (apply x_condF; (· simp only [go_sem, *, Co]; try rfl)) | (apply x_guardS; (· rfl); (fail_if_success (focus (show _ = some true; (· simp only [go_sem, *, Co]; try rfl)))); (· simp only [go_sem, *, Co]; try rfl); all_goals (intro hb; try simp only [Bool.not_eq_true', Bool.not_eq_false'] at hb)) | (apply x_condS; (· simp only [go_sem, *, Co]; try rfl); all_goals (intro hb; try simp only [Bool.not_eq_true', Bool.not_eq_false'] at hb)) | fail
        (apply f_panic; iterate 6 (· simp only [go_sem, *]; try rfl))
        exact hb
      have d2 : decide ((32 : Int) ≤ (c : Int)) = true := by simp; omega
      by_cases q2 : 127 ≤ c
      · have d3 : decide ((c : Int) < 127) = false := by simp; omega
        by_cases q3 : c ≤ 159
        · have d4 : decide ((159 : Int) < (c : Int)) = false := by simp; omega
          have hc : okT c = false := by unfold okT; rw [decide_eq_true q2, decide_eq_true q3]; simp
          have hb := Bad2.out hc
          have hmF := HmF.out
          clear q1 q2 q3 hc hmT
          repeat' first | apply x_seq | apply x_skip | apply x_block | apply x_exit | apply x_ret | apply x_ops_nil | apply p_blk | apply p_exit_it | apply p_exit_hit | apply p_ret_it | apply p_ret_blk | apply p_panic_it | apply p_panic_blk | apply p_end | (apply p_exit_miss; (· rfl)) | (apply x_region; simp only [List.toList_toArray]) | (apply x_step0; (· rfl); (· simp only [go_sem, *, Co]; try rfl); (· rfl); simp only [putA]) | (apply ac_ret; simp only [putA]) | apply ac_panic | (apply x_callA []; (· simp only [go_sem, *, Co]; try rfl); (· rfl); (· simp only [go_sem, *, Co]; try rfl); (· rfl); (iterate 2 (· simp only [go_sem, *, Co]; try rfl)); (first | apply hmF); simp only [afterCall, putA]) | (apply x_panic; (· simp only [go_sem, *, Co]; try rfl); (· rfl); (· simp only [go_sem, *, Co]; try rfl)) | (apply x_step; (iterate 2 (· simp only [go_sem, *, Co]; try rfl)); (· rfl); simp only [putA]) | (apply x_unwanted; (· simp only [go_sem, *, Co]; try rfl); (· rfl); simp only [putA]) | (apply x_condT; (· simp only [go_sem, *, Co]; try rfl)) | (apply x_condF; (· simp only [go_sem, *, Co]; try rfl)) | (apply x_guardS; (· rfl); (fail_if_success (focus (show _ = some true; (· simp only [go_sem, *, Co]; try rfl)))); (· simp only [go_sem, *, Co]; try rfl); all_goals (intro hb; try simp only [Bool.not_eq_true', Bool.not_eq_false'] at hb)) | (apply x_condS; (· simp only [go_sem, *, Co]; try rfl); all_goals (intro hb; try simp only [Bool.not_eq_true', Bool.not_eq_false'] at hb)) | fail
          (apply f_panic; iterate 6 (· simp only [go_sem, *]; try rfl))
          exact hb
        · have d4 : decide ((159 : Int) < (c : Int)) = true := by simp; omega
          have hc : okT c = true := by unfold okT; rw [decide_eq_false q3, decide_eq_true (by omega)]; simp
          clear q1 q2 q3
          repeat' first | apply x_seq | apply x_skip | apply x_block | apply x_exit | apply x_ret | apply x_ops_nil | apply p_blk | apply p_exit_it | apply p_exit_hit | apply p_ret_it | apply p_ret_blk | apply p_panic_it | apply p_panic_blk | apply p_end | (apply p_exit_miss; (· rfl)) | (apply x_region; simp only [List.toList_toArray]) | (apply x_step0; (· rfl); (· simp only [go_sem, *, Co]; try rfl); (· rfl); simp only [putA]) | (apply ac_ret; simp only [putA]) | apply ac_panic | (apply x_callA []; (· simp only [go_sem, *, Co]; try rfl); (· rfl); (· simp only [go_sem, *, Co]; try rfl); (· rfl); (iterate 2 (· simp only [go_sem, *, Co]; try rfl)); (first | apply hmT); simp only [afterCall, putA]) | (apply x_panic; (· simp only [go_sem, *, Co]; try rfl); (· rfl); (· simp only [go_sem, *, Co]; try rfl)) | (apply x_step; (iterate 2 (· simp only [go_sem, *, Co]; try rfl)); (· rfl); simp only [putA]) | (apply x_unwanted; (· simp only [go_sem, *, Co]; try rfl); (· rfl); simp only [putA]) | (apply x_condT; (· simp only [go_sem, *, Co]; try rfl)) | (apply x_condF; (· simp only [go_sem, *, Co]; try rfl)) | (apply x_guardS; (· rfl); (fail_if_success (focus (show _ = some true; (· simp only [go_sem, *, Co]; try rfl)))); (· simp only [go_sem, *, Co]; try rfl); all_goals (intro hb; try simp only [Bool.not_eq_true', Bool.not_eq_false'] at hb)) | (apply x_condS; (· simp only [go_sem, *, Co]; try rfl); all_goals (intro hb; try simp only [Bool.not_eq_true', Bool.not_eq_false'] at hb)) | fail
          refine HI.out (k + 1) _ _ (by have := Hlt.out; omega) ⟨Hlt.out, Good2.out hc, ?_, ?_, ?_, ?_, rfl⟩
          all_goals (simp only [go_sem, *]; try rfl)
      · have d3 : decide ((c : Int) < 127) = true := by simp; omega
        have hc : okT c = true := by unfold okT; rw [decide_eq_false q2, decide_eq_true (by omega)]; rfl
        clear q1 q2
        repeat' first | apply x_seq | apply x_skip | apply x_block | apply x_exit | apply x_ret | apply x_ops_nil | apply p_blk | apply p_exit_it | apply p_exit_hit | apply p_ret_it | apply p_ret_blk | apply p_panic_it | apply p_panic_blk | apply p_end | (apply p_exit_miss; (· rfl)) | (apply x_region; simp only [List.toList_toArray]) | (apply x_step0; (· rfl); (· simp only [go_sem, *, Co]; try rfl); (· rfl); simp only [putA]) | (apply ac_ret; simp only [putA]) | apply ac_panic | (apply x_callA []; (· simp only [go_sem, *, Co]; try rfl); (· rfl); (· simp only [go_sem, *, Co]; try rfl); (· rfl); (iterate 2 (· simp only [go_sem, *, Co]; try rfl)); (first | apply hmT); simp only [afterCall, putA]) | (apply x_panic; (· simp only [go_sem, *, Co]; try rfl); (· rfl); (· simp only [go_sem, *, Co]; try rfl)) | (apply x_step; (iterate 2 (· simp only [go_sem, *, Co]; try rfl)); (· rfl); simp only [putA]) | (apply x_unwanted; (· simp only [go_sem, *, Co]; try rfl); (· rfl); simp only [putA]) | (apply x_condT; (· simp only [go_sem, *, Co]; try rfl)) | (apply x_condF; (· simp only [go_sem, *, Co]; try rfl)) | (apply x_guardS; (· rfl); (fail_if_success (focus (show _ = some true; (· simp only [go_sem, *, Co]; try rfl)))); (· simp only [go_sem, *, Co]; try rfl); all_goals (intro hb; try simp only [Bool.not_eq_true', Bool.not_eq_false'] at hb)) | (apply x_condS; (· simp only [go_sem, *, Co]; try rfl); all_goals (intro hb; try simp only [Bool.not_eq_true', Bool.not_eq_false'] at hb)) | fail
        refine HI.out (k + 1) _ _ (by have := Hlt.out; omega) ⟨Hlt.out, Good2.out hc, ?_, ?_, ?_, ?_, rfl⟩
        all_goals (simp only [go_sem, *]; try rfl)
    · have h1 : decide ((k : Int) < (l.length : Int)) = false := by simpa using hlt
      have hh := Good.out (by
        rw [List.all_eq_true]
        intro c hc
        obtain ⟨j, hj⟩ := List.getElem?_of_mem hc
        exact Hall.out j c (by have := (List.getElem?_eq_some_iff.1 hj).1; omega) hj)
      clear hlt hk Hall HI hll
      repeat' first | refine st ?_ | (refine br ?_ ?_; all_goals (intro hb; try simp only [Bool.not_eq_true', Bool.not_eq_false'] at hb)) | fail
      (apply f_end; iterate 7 (· simp only [go_sem, *, Tryz.results50]; try rfl))
      exact hh
end Go.Proofs.YtfnnjkbhmoomjaaGreatDoor
namespace Go.Proofs.YtfnnjkbhmoomjaaGreatDoor
open Go Go.Fen
set_option linter.unusedSimpArgs false
set_option linter.unusedVariables false
attribute [local irreducible] RunX WP ACall AnyP OpA ProtL afterCall afterOp
set_option maxRecDepth 8000
theorem oLimits (w0 : World) (S : List Blk) (R : AOut → List Blk → Prop) (h : R (.ret (.agg [.int .i64 0, .int .i64 255, .int .i64 16777215])) S) : ACall Tryz.prog w0 111 [] S R := by
  refine enter Tryz.func111 rfl (by decide +kernel) (by rw [Tryz.ntmps111]; simp) (by rw [Tryz.ntmps111]; decide) (fun hO => ?_); rw [Tryz.ntmps111]
  repeat' first | refine st ?_ | (refine br ?_ ?_; all_goals (intro hb; try simp only [Bool.not_eq_true', Bool.not_eq_false'] at hb)) | fail
  (apply f_ret; iterate 7 (· simp only [go_sem, *, Tryz.results111]; try rfl))
  exact h
def limO (k : Int) : Int := if k = 0 then 0 else if k = 1 then 255 else 16777215
def colB (k n : Int) : Bool := (decide (0 ≤ k) && decide (k ≤ 2)) && (decide (0 ≤ n) && decide (n ≤ limO k))
set_option maxHeartbeats 8000000 in
theorem oColCheck (w0 : World) (S : List Blk) (k n : Int) (R : AOut → List Blk → Prop) (h : R (.ret (.int .i64 (if colB k n then 0 else 130))) S) : ACall Tryz.prog w0 80 [.agg [.int .i64 k, .int .i64 n]] S R := by
  have hl := oLimits w0
  have H := Lib.hid h
  clear h
  have hk3 : k = 0 ∨ k = 1 ∨ k = 2 ∨ k < 0 ∨ (0 ≤ k ∧ 3 ≤ k) := by omega
  rcases hk3 with rfl | rfl | rfl | hk | ⟨hk, hk3⟩
  case inr.inr.inr.inl =>
    have d1 : decide (k < 0) = true := decide_eq_true hk
    have hh := H.out
    rw [if_neg (by unfold colB; simp; omega)] at hh
    clear hk H
    refine enter Tryz.func80 rfl (by decide +kernel) (by rw [Tryz.ntmps80]; simp) (by rw [Tryz.ntmps80]; decide) (fun hO => ?_); rw [Tryz.ntmps80]
    repeat' first | refine st ?_ | (refine ca ?_; first | apply hl) | (refine br ?_ ?_; all_goals (intro hb; try simp only [Bool.not_eq_true', Bool.not_eq_false'] at hb)) | refine sd ?_ | apply pl_nil | (apply c_end; (· decide +kernel)) | refine bd ?_ ?_ | (refine cd ?_; first | apply hl) | fail
    (apply f_ret; iterate 7 (· simp only [go_sem, *, Tryz.results80]; try rfl))
    exact hh
  case inr.inr.inr.inr =>
    have d1 : decide (k < 0) = false := decide_eq_false (by omega)
    have d2 : decide (3 ≤ k) = true := decide_eq_true hk3
    have hh := H.out
    rw [if_neg (by unfold colB; simp; omega)] at hh
    clear hk hk3 H
    refine enter Tryz.func80 rfl (by decide +kernel) (by rw [Tryz.ntmps80]; simp) (by rw [Tryz.ntmps80]; decide) (fun hO => ?_); rw [Tryz.ntmps80]
    repeat' first | refine st ?_ | (refine ca ?_; first | apply hl) | (refine br ?_ ?_; all_goals (intro hb; try simp only [Bool.not_eq_true', Bool.not_eq_false'] at hb)) | refine sd ?_ | apply pl_nil | (apply c_end; (· decide +kernel)) | refine bd ?_ ?_ | (refine cd ?_; first | apply hl) | fail
    (apply f_ret; iterate 7 (· simp only [go_sem, *, Tryz.results80]; try rfl))
    exact hh
  all_goals
    rcases (show n < 0 ∨ 0 ≤ n by omega) with hn | hn
    all_goals
      first
      | have d1 : decide (n < 0) = true := decide_eq_true hn
      | have d1 : decide (n < 0) = false := decide_eq_false (by omega)
      have Hn := Lib.hid hn
      clear hn
      refine enter Tryz.func80 rfl (by decide +kernel) (by rw [Tryz.ntmps80]; simp) (by rw [Tryz.ntmps80]; decide) (fun hO => ?_); rw [Tryz.ntmps80]
      repeat' first | refine st ?_ | (refine ca ?_; first | apply hl) | (refine br ?_ ?_; all_goals (intro hb; try simp only [Bool.not_eq_true', Bool.not_eq_false'] at hb)) | refine sd ?_ | apply pl_nil | (apply c_end; (· decide +kernel)) | refine bd ?_ ?_ | (refine cd ?_; first | apply hl) | fail
      all_goals (apply f_ret; iterate 7 (· simp only [go_sem, *, Tryz.results80]; try rfl))
      all_goals
        refine cast (congrArg (fun v => R (.ret (.int .i64 v)) S) ?_) H.out
        have hn := Hn.out
        simp only [decide_eq_true_eq, decide_eq_false_iff_not] at *
        first
        | (rw [if_pos (by simp [colB, limO]; omega)])
        | (rw [if_neg (by simp [colB, limO]; omega)])
end Go.Proofs.YtfnnjkbhmoomjaaGreatDoor
namespace Go.Proofs.YtfnnjkbhmoomjaaGreatDoor
open Go Go.Fen
set_option linter.unusedSimpArgs false
set_option linter.unusedVariables false
attribute [local irreducible] RunX WP ACall AnyP OpA ProtL afterCall afterOp
set_option maxRecDepth 8000
theorem oSize (w0 : World) (S : List Blk) (n : Nat) (hn : n ≤ 100000) (R : AOut → List Blk → Prop) (h : R (.ret (.int .i64 (((n + 2) / 3 * 4 : Nat) : Int))) S) : ACall Tryz.prog w0 87 [.int .i64 n] S R := by
  have m1 : (if (1099511627776 : Int) < (n : Int) then (1099511627776 : Int) else (n : Int)) = (n : Int) := by rw [if_neg (by omega)]
  have m2 : (if (n : Int) > 0 then (n : Int) else 0) = (n : Int) := by split <;> omega
  have k1 : IntKind.i64.wrap ((n : Int) + 2) = ((n + 2 : Nat) : Int) := by rw [IntWalk.i64_in _ (by omega)]; omega
  have k2 : IntKind.i64.wrap (((n + 2 : Nat) : Int).tdiv 3) = (((n + 2) / 3 : Nat) : Int) := tdK (n + 2) 3 (by omega)
  have k3 : IntKind.i64.wrap ((((n + 2) / 3 : Nat) : Int) * 4) = (((n + 2) / 3 * 4 : Nat) : Int) := by rw [IntWalk.i64_in _ (by omega)]; omega
  clear hn
  refine enter Tryz.func87 rfl (by decide +kernel) (by rw [Tryz.ntmps87]; simp) (by rw [Tryz.ntmps87]; decide) (fun hO => ?_); rw [Tryz.ntmps87]
  repeat' first | refine st ?_ | (refine br ?_ ?_; all_goals (intro hb; try simp only [Bool.not_eq_true', Bool.not_eq_false'] at hb)) | fail
  (apply f_ret; iterate 7 (· simp only [go_sem, *, Tryz.results87]; try rfl))
  exact h
theorem oRgb (w0 : World) (S : List Blk) (n : Int) (hn : colB 2 n = true) (R : AOut → List Blk → Prop) (h : R (.ret (.tup [.int .i64 n, .bool true])) S) : ACall Tryz.prog w0 81 [.agg [.int .i64 2, .int .i64 n]] S R := by
  have hc := fun S' => oColCheck w0 S' 2 n
  rw [hn, if_pos rfl] at hc
  clear hn
  refine enter Tryz.func81 rfl (by decide +kernel) (by rw [Tryz.ntmps81]; simp) (by rw [Tryz.ntmps81]; decide) (fun hO => ?_); rw [Tryz.ntmps81]
  repeat' first | refine st ?_ | (refine ca ?_; first | apply hc) | (refine br ?_ ?_; all_goals (intro hb; try simp only [Bool.not_eq_true', Bool.not_eq_false'] at hb)) | fail
  (apply f_ret; iterate 7 (· simp only [go_sem, *, Tryz.results81]; try rfl))
  exact h
end Go.Proofs.YtfnnjkbhmoomjaaGreatDoor
namespace Go.Proofs.YtfnnjkbhmoomjaaGreatDoor
open Go Go.Fen
set_option linter.unusedSimpArgs false
set_option linter.unusedVariables false
attribute [local irreducible] RunX WP ACall AnyP OpA ProtL afterCall afterOp
set_option maxRecDepth 8000
theorem idx59 (s : List UInt8) : Lib.indexByte s 59 = if s.dropWhile (fun b => b != 59) = [] then -1 else ((s.takeWhile (fun b => b != 59)).length : Int) := by
  induction s with
  | nil => rfl
  | cons b l ih =>
    rw [Lib.indexByte, List.dropWhile_cons, List.takeWhile_cons]
    by_cases hb : b = 59
    · subst hb; simp
    · have h1 : (b == 59) = false := by simpa using hb
      have h2 : (b != 59) = true := by simpa using hb
      rw [h1, h2]
      simp only [Bool.false_eq_true, if_false, if_true]
      rw [ih]
      split
      · simp
      · rw [if_neg (by simp)]
        simp
theorem oIdx (w0 : World) (S : List Blk) (s : List UInt8) (R : AOut → List Blk → Prop) (h : R (.ret (.int .i64 (Lib.indexByte s 59))) S) : ACall Tryz.prog w0 142 [.str s, .int .u8 59] S R := by
  refine ACall.lib (vs := [.string ⟨s.toArray⟩, .int .u8 59]) (v := .int .i64 (Lib.indexByte s 59)) (c := .int .i64 (Lib.indexByte s 59)) (Go.Proofs.enters_of Tryz.func142 (by kernel_rfl) rfl) rfl rfl ?_ h
  intro w hb
  refine (Go.Proofs.Any.stringslite_IndexByte Go.Proofs.Tryz.lays217 ⟨s.toArray⟩ 59 w).mono ?_
  rintro e w' ⟨rfl, rfl⟩
  exact ⟨rfl, RowKit.Below.refl _ _⟩
theorem oIndex (w0 : World) (S : List Blk) (s : List UInt8) (R : AOut → List Blk → Prop) (h : R (.ret (.int .i64 (Lib.indexByte s 59))) S) : ACall Tryz.prog w0 118 [.str s, .str [59]] S R := by
  have hi := fun S' => oIdx w0 S' s
  by_cases hs : s = [59]
  · subst hs
    have h : R (.ret (.int .i64 0)) S := h
    clear hi
    refine enter Tryz.func118 rfl (by decide +kernel) (by rw [Tryz.ntmps118]; simp) (by rw [Tryz.ntmps118]; decide) (fun hO => ?_); rw [Tryz.ntmps118]
    repeat' first | refine st ?_ | (refine br ?_ ?_; all_goals (intro hb; try simp only [Bool.not_eq_true', Bool.not_eq_false'] at hb)) | fail
    (apply f_ret; iterate 7 (· simp only [go_sem, *, Tryz.results118]; try rfl))
    exact h
  · have hne : (([59] : List UInt8) == s) = false := by
      rw [beq_eq_false_iff_ne]
      exact fun e => hs e.symm
    generalize Lib.indexByte s 59 = i at h hi
    clear hs
    refine enter Tryz.func118 rfl (by decide +kernel) (by rw [Tryz.ntmps118]; simp) (by rw [Tryz.ntmps118]; decide) (fun hO => ?_); rw [Tryz.ntmps118]
    repeat' first | refine st ?_ | (refine ca ?_; first | apply hi) | (refine br ?_ ?_; all_goals (intro hb; try simp only [Bool.not_eq_true', Bool.not_eq_false'] at hb)) | fail
    (apply f_ret; iterate 7 (· simp only [go_sem, *, Tryz.results118]; try rfl))
    exact h
def cutW (s : List UInt8) : AV := match cutO s with | some q => .tup [.str q.1, .str q.2, .bool true] | none => .tup [.str s, .str [], .bool false]
theorem oCut0 (w0 : World) (S : List Blk) (s : List UInt8) (hs : s.length ≤ 10000000) (R : AOut → List Blk → Prop) (h : R (.ret (cutW s)) S) : ACall Tryz.prog w0 91 [.str s, .str [59]] S R := by
  have hi := fun S' => oIndex w0 S' s
  have htd := List.takeWhile_append_dropWhile (p := fun b => b != 59) (l := s)
  rw [idx59] at hi
  by_cases hd : s.dropWhile (fun b => b != 59) = []
  · rw [if_pos hd] at hi
    unfold cutW cutO at h
    rw [if_pos hd] at h
    have h : R (.ret (.tup [.str s, .str [], .bool false])) S := h
    clear htd hd hs
    refine enter Tryz.func91 rfl (by decide +kernel) (by rw [Tryz.ntmps91]; simp) (by rw [Tryz.ntmps91]; decide) (fun hO => ?_); rw [Tryz.ntmps91]
    repeat' first | refine st ?_ | (refine ca ?_; first | apply hi) | (refine br ?_ ?_; all_goals (intro hb; try simp only [Bool.not_eq_true', Bool.not_eq_false'] at hb)) | fail
    (apply f_ret; iterate 7 (· simp only [go_sem, *, Tryz.results91]; try rfl))
    exact h
  · rw [if_neg hd] at hi
    unfold cutW cutO at h
    rw [if_neg hd] at h
    have h : R (.ret (.tup [.str (s.takeWhile (fun b => b != 59)), .str ((s.dropWhile (fun b => b != 59)).drop 1), .bool true])) S := h
    obtain ⟨W, hW⟩ : ∃ W, s.takeWhile (fun b => b != 59) = W := ⟨_, rfl⟩
    obtain ⟨D, hD⟩ : ∃ D, s.dropWhile (fun b => b != 59) = D := ⟨_, rfl⟩
    rw [hW] at hi h htd
    rw [hD] at hd htd h
    have hdl : 0 < D.length := List.length_pos_iff.2 hd
    have hsl : s.length = W.length + D.length := by rw [← htd]; simp
    have d1 : decide ((0 : Int) ≤ (W.length : Int)) = true := by simp
    have hw : IntKind.i64.wrap ((W.length : Int) + ((1 : Nat) : Int)) = ((W.length + 1 : Nat) : Int) := by rw [IntWalk.i64_in _ (by omega)]; rfl
    have b1 : (W.length : Int) ≤ (s.length : Int) := by omega
    have b2 : ((W.length + 1 : Nat) : Int) ≤ (s.length : Int) := by omega
    have htk : List.take W.length s = W := by rw [← htd]; simp
    have hdk : List.drop (W.length + 1) s = D.drop 1 := by rw [← htd, ← List.drop_drop]; simp
    have hts : List.take s.length s = s := List.take_length
    generalize hE : D.drop 1 = E at h hdk
    clear hD hW hd htd hsl hdl hs hE
    refine enter Tryz.func91 rfl (by decide +kernel) (by rw [Tryz.ntmps91]; simp) (by rw [Tryz.ntmps91]; decide) (fun hO => ?_); rw [Tryz.ntmps91]
    repeat' first | refine st ?_ | (refine ca ?_; first | apply hi) | (refine br ?_ ?_; all_goals (intro hb; try simp only [Bool.not_eq_true', Bool.not_eq_false'] at hb)) | refine sd ?_ | apply pl_nil | (apply c_end; (· decide +kernel)) | refine bd ?_ ?_ | (refine cd ?_; first | apply hi) | fail
    all_goals (apply f_ret; iterate 7 (· simp only [go_sem, *, Tryz.results91]; try rfl))
    all_goals exact h
theorem oCut (w0 : World) (S : List Blk) (s : List UInt8) (hs : s.length ≤ 10000000) (R : AOut → List Blk → Prop) (h : R (.ret (cutW s)) S) : ACall Tryz.prog w0 62 [.str s, .str [59]] S R := by
  have hi := fun S' => oCut0 w0 S' s hs
  unfold cutW at h hi
  clear hs
  cases hq : cutO s with
  | none =>
    rw [hq] at h hi
    clear hq
    refine enter Tryz.func62 rfl (by decide +kernel) (by rw [Tryz.ntmps62]; simp) (by rw [Tryz.ntmps62]; decide) (fun hO => ?_); rw [Tryz.ntmps62]
    repeat' first | refine st ?_ | (refine ca ?_; first | apply hi) | (refine br ?_ ?_; all_goals (intro hb; try simp only [Bool.not_eq_true', Bool.not_eq_false'] at hb)) | fail
    (apply f_ret; iterate 7 (· simp only [go_sem, *, Tryz.results62]; try rfl))
    exact h
  | some q =>
    rw [hq] at h hi
    obtain ⟨u, v⟩ := q
    simp only at h hi
    clear hq
    refine enter Tryz.func62 rfl (by decide +kernel) (by rw [Tryz.ntmps62]; simp) (by rw [Tryz.ntmps62]; decide) (fun hO => ?_); rw [Tryz.ntmps62]
    repeat' first | refine st ?_ | (refine ca ?_; first | apply hi) | (refine br ?_ ?_; all_goals (intro hb; try simp only [Bool.not_eq_true', Bool.not_eq_false'] at hb)) | fail
    (apply f_ret; iterate 7 (· simp only [go_sem, *, Tryz.results62]; try rfl))
    exact h
def twoV : Option (List UInt8 × List UInt8) → AOut
  | some q => .ret (.tup [.str q.1, .str q.2])
  | none => .panic noneV
theorem oTwo (w0 : World) (S : List Blk) (s : List UInt8) (hs : s.length ≤ 10000000) (R : AOut → List Blk → Prop) (h : R (twoV (cutO s)) S) : ACall Tryz.prog w0 33 [.str s] S R := by
  have hi := fun S' => oCut w0 S' s hs
  have hT := oMustT w0
  have hF := oMustF w0
  unfold cutW at hi
  clear hs
  cases hq : cutO s with
  | none =>
    rw [hq] at h hi
    unfold twoV noneV at h
    unfold noneV at hF
    clear hq hT
    refine enter Tryz.func33 rfl (by decide +kernel) (by rw [Tryz.ntmps33]; simp) (by rw [Tryz.ntmps33]; decide) (fun hO => ?_); rw [Tryz.ntmps33]
    repeat' first | refine st ?_ | (refine ca ?_; first | apply hi | apply hF) | (refine br ?_ ?_; all_goals (intro hb; try simp only [Bool.not_eq_true', Bool.not_eq_false'] at hb)) | fail
    (apply f_panic; iterate 6 (· simp only [go_sem, *]; try rfl))
    exact h
  | some q =>
    rw [hq] at h hi
    obtain ⟨u, v⟩ := q
    unfold twoV at h
    simp only at h hi
    clear hq hF
    refine enter Tryz.func33 rfl (by decide +kernel) (by rw [Tryz.ntmps33]; simp) (by rw [Tryz.ntmps33]; decide) (fun hO => ?_); rw [Tryz.ntmps33]
    repeat' first | refine st ?_ | (refine ca ?_; first | apply hi | apply hT) | (refine br ?_ ?_; all_goals (intro hb; try simp only [Bool.not_eq_true', Bool.not_eq_false'] at hb)) | fail
    (apply f_ret; iterate 7 (· simp only [go_sem, *, Tryz.results33]; try rfl))
    exact h
end Go.Proofs.YtfnnjkbhmoomjaaGreatDoor
namespace Go.Proofs.YtfnnjkbhmoomjaaGreatDoor
open Go Go.Fen
set_option linter.unusedSimpArgs false
set_option linter.unusedVariables false
attribute [local irreducible] RunX WP ACall AnyP OpA ProtL afterCall afterOp
set_option maxRecDepth 8000
theorem oRead1 (w0 : World) (S : List Blk) (s : List UInt8) (hs : s.length ≤ 10000000) (R : AOut → List Blk → Prop) (h : R (if titleB s then .ret (Ac.av ⟨44, 0, 0, 0, 0, s⟩) else .panic noneV) S) : ACall Tryz.prog w0 63 [.str s] S R := by
  have ht := fun S' => oTitle w0 S' s hs
  unfold Ac.av at h
  clear hs
  cases hb : titleB s with
  | true =>
    rw [hb, if_pos rfl] at h
    rw [hb, if_pos rfl] at ht
    simp only at h
    clear hb
    refine enter Tryz.func63 rfl (by decide +kernel) (by rw [Tryz.ntmps63]; simp) (by rw [Tryz.ntmps63]; decide) (fun hO => ?_); rw [Tryz.ntmps63]
    repeat' first | refine st ?_ | (refine ca ?_; first | apply ht) | (refine br ?_ ?_; all_goals (intro hb; try simp only [Bool.not_eq_true', Bool.not_eq_false'] at hb)) | fail
    (apply f_ret; iterate 7 (· simp only [go_sem, *, Tryz.results63]; try rfl))
    exact h
  | false =>
    rw [hb, if_neg (by decide)] at h
    rw [hb, if_neg (by decide)] at ht
    unfold noneV at h ht
    clear hb
    refine enter Tryz.func63 rfl (by decide +kernel) (by rw [Tryz.ntmps63]; simp) (by rw [Tryz.ntmps63]; decide) (fun hO => ?_); rw [Tryz.ntmps63]
    repeat' first | refine st ?_ | (refine ca ?_; first | apply ht) | (refine br ?_ ?_; all_goals (intro hb; try simp only [Bool.not_eq_true', Bool.not_eq_false'] at hb)) | fail
    (apply f_panic; iterate 6 (· simp only [go_sem, *]; try rfl))
    exact h
theorem oPrint1 (w0 : World) (S : List Blk) (a : Ac) (hs : a.text.length ≤ 10000000) (hk : a.kind = 44) (R : AOut → List Blk → Prop) (h : R (if a = ⟨44, 0, 0, 0, 0, a.text⟩ ∧ titleB a.text = true then .ret (.str (50 :: 59 :: a.text)) else .panic noneV) S) : ACall Tryz.prog w0 48 [a.av] S R := by
  have ht := fun S' => oTitle w0 S' a.text hs
  have hpT := fun S' => oPlainT w0 S' a ⟨a.kind, 0, 0, 0, 0, a.text⟩
  have hpF := fun S' => oPlainF w0 S' a ⟨a.kind, 0, 0, 0, 0, a.text⟩
  obtain ⟨k, n, m, ck, cn, t⟩ := a
  simp only at hk hs ht hpT hpF h
  subst hk
  unfold Ac.av at hpT hpF ⊢
  simp only at hpT hpF ⊢
  have hl : 2 + t.length ≤ 9223372036854775807 := by omega
  clear hs
  by_cases he : (⟨44, n, m, ck, cn, t⟩ : Ac) = ⟨44, 0, 0, 0, 0, t⟩
  · have hp := fun S' => hpT S' he
    cases hb : titleB t with
    | true =>
      rw [if_pos ⟨he, hb⟩] at h
      rw [hb, if_pos rfl] at ht
      clear hpT hpF he hb
      refine enter Tryz.func48 rfl (by decide +kernel) (by rw [Tryz.ntmps48]; simp) (by rw [Tryz.ntmps48]; decide) (fun hO => ?_); rw [Tryz.ntmps48]
      repeat' first | refine st ?_ | (refine ca ?_; first | apply hp | apply ht) | (refine br ?_ ?_; all_goals (intro hb; try simp only [Bool.not_eq_true', Bool.not_eq_false'] at hb)) | fail
      (apply f_ret; iterate 7 (· simp only [go_sem, *, Tryz.results48]; try rfl))
      exact h
    | false =>
      rw [if_neg (by rw [hb]; simp)] at h
      rw [hb, if_neg (by decide)] at ht
      unfold noneV at h ht
      clear hpT hpF he hb
      refine enter Tryz.func48 rfl (by decide +kernel) (by rw [Tryz.ntmps48]; simp) (by rw [Tryz.ntmps48]; decide) (fun hO => ?_); rw [Tryz.ntmps48]
      repeat' first | refine st ?_ | (refine ca ?_; first | apply hp | apply ht) | (refine br ?_ ?_; all_goals (intro hb; try simp only [Bool.not_eq_true', Bool.not_eq_false'] at hb)) | fail
      (apply f_panic; iterate 6 (· simp only [go_sem, *]; try rfl))
      exact h
  · have hp := fun S' => hpF S' he
    rw [if_neg (fun e => he e.1)] at h
    unfold noneV at h hp
    clear hpT hpF he ht
    refine enter Tryz.func48 rfl (by decide +kernel) (by rw [Tryz.ntmps48]; simp) (by rw [Tryz.ntmps48]; decide) (fun hO => ?_); rw [Tryz.ntmps48]
    repeat' first | refine st ?_ | (refine ca ?_; first | apply hp) | (refine br ?_ ?_; all_goals (intro hb; try simp only [Bool.not_eq_true', Bool.not_eq_false'] at hb)) | fail
    (apply f_panic; iterate 6 (· simp only [go_sem, *]; try rfl))
    exact h
end Go.Proofs.YtfnnjkbhmoomjaaGreatDoor
namespace Go.Proofs.YtfnnjkbhmoomjaaGreatDoor
open Go Go.Fen
set_option linter.unusedSimpArgs false
set_option linter.unusedVariables false
attribute [local irreducible] RunX WP ACall AnyP OpA ProtL afterCall afterOp
set_option maxRecDepth 8000
def ParseOk (w0 : World) : Prop := ∀ (S : List Blk) (s : List UInt8), s.length ≤ 8192 → ∀ (R : AOut → List Blk → Prop), R (.ret (parV (parseO s))) S → ACall Tryz.prog w0 13 [.str s] S R
def PrintOk (w0 : World) : Prop := ∀ (S : List Blk) (a : Ac), a.text.length ≤ 10000 → ∀ (R : AOut → List Blk → Prop), R (.ret (printV (printO a))) S → ACall Tryz.prog w0 10 [a.av] S R
def prT (o : Option (List UInt8)) : List UInt8 := o.getD []
def prE (o : Option (List UInt8)) : Int := if o.isSome then 0 else 2
theorem printV_eq (o : Option (List UInt8)) : printV o = .tup [.str (prT o), .int .i64 (prE o)] := by cases o <;> rfl
end Go.Proofs.YtfnnjkbhmoomjaaGreatDoor
namespace Go.Proofs.YtfnnjkbhmoomjaaGreatDoor
open Go Go.Fen
set_option linter.unusedSimpArgs false
set_option linter.unusedVariables false
attribute [local irreducible] RunX WP ACall AnyP OpA ProtL afterCall afterOp
set_option maxRecDepth 8000
set_option maxHeartbeats 1000000 in
theorem writeByte (w0 : World) (S : List Blk) (a g i : Nat) (ad : AV) (bs : List UInt8) (c : UInt8) (hb : Bld S a g i ad bs) (hlen : (bs.length + 1) * 1 ≤ 140737488355328) (R : AOut → List Blk → Prop)
    (h : R (.ret .inil) ((S.set g (.arr 5 1 0 (i + 1) ((bs ++ [c]).map bAV))).set a (.cells [.own a 0, .sown g (i + 1) (bs.length + 1)] (some 82)))) :
    ACall Tryz.prog w0 86 [.own a 0, .int .u8 c.toNat] S R := by
  obtain ⟨ha, hg, had⟩ := hb
  have hal := (List.getElem?_eq_some_iff.1 ha).1
  have hgl := (List.getElem?_eq_some_iff.1 hg).1
  have hne : a ≠ g := by rintro rfl; rw [ha] at hg; cases hg
  obtain ⟨S1, hS1⟩ : ∃ S1, S.set a (.cells [.own a 0, .sown g i bs.length] (some 82)) = S1 := ⟨_, rfl⟩
  have hck : ∀ R : AOut → List Blk → Prop, R (.ret (.tup [])) S1 → ACall Tryz.prog w0 76 [.own a 0] S R := by
    intro R hR
    rcases had with rfl | rfl
    · exact copyCheck0 w0 S a _ ha (by simpa [AV.lt] using hgl) hal R (hS1 ▸ hR)
    · have : S.set a (.cells [.own a 0, .sown g i bs.length] (some 82)) = S := set_self ha
      rw [this] at hS1
      exact copyCheck1 w0 S a _ ha R (hS1 ▸ hR)
  have h1 : S1[a]? = some (.cells [.own a 0, .sown g i bs.length] (some 82)) := by rw [← hS1]; simp [hal]
  have h2 : S1[g]? = some (.arr 5 1 0 i (bs.map bAV)) := by rw [← hS1, List.getElem?_set_ne hne]; exact hg
  have hl1 : S1.length = S.length := by rw [← hS1]; simp
  have hbl : (bs.map bAV).length = bs.length := by simp
  have h3 : ∀ B, (S1.set g B)[a]? = some (.cells [.own a 0, .sown g i bs.length] (some 82)) := by intro B; rw [List.getElem?_set_ne (Ne.symm hne)]; exact h1
  have hg1 : g < S1.length := by rw [hl1]; exact hgl
  have ha1 : a < S1.length := by rw [hl1]; exact hal
  have h4 : ∀ B, (S1 ++ [B])[g]? = some (.arr 5 1 0 i (bs.map bAV)) := by intro B; rw [List.getElem?_append_left hg1]; exact h2
  have h5 : ∀ B, (S1 ++ [B])[a]? = some (.cells [.own a 0, .sown g i bs.length] (some 82)) := by intro B; rw [List.getElem?_append_left ha1]; exact h1
  have h6 : ∀ B C, (S1 ++ [B]).set g C = S1.set g C ++ [B] := by intro B C; exact List.set_append_left _ _ hg1
  have h7 : ∀ B C, (S1.set g C ++ [B])[a]? = some (.cells [.own a 0, .sown g i bs.length] (some 82)) := by intro B C; rw [List.getElem?_append_left (by simpa using ha1)]; exact h3 C
  have h8 : ∀ B C D, (S1.set g C ++ [B]).set a D = (S1.set g C).set a D ++ [B] := by intro B C D; exact List.set_append_left _ _ (by simpa using ha1)
  have hfin : ∀ B C, (S1.set g B).set a C = (S.set g B).set a C := by
    intro B C
    rw [← hS1, List.set_comm _ _ hne, List.set_set]
  rw [List.map_append] at h
  have Hfin := Lib.hid hfin
  have Hal := Lib.hid (And.intro hal hgl)
  have H := Lib.hid h
  have Hl1 := Lib.hid hl1
  clear hg had hal hgl hne hS1 hfin h hg1 ha1 hl1
  refine enter Tryz.func86 rfl (by decide +kernel) (by rw [Tryz.ntmps86]; simp) (by rw [Tryz.ntmps86]; decide) (fun hO => ?_); rw [Tryz.ntmps86]
  repeat' first | apply x_seq | apply x_skip | apply x_block | apply x_exit | apply x_ret | apply x_ops_nil | apply p_blk | apply p_exit_it | apply p_exit_hit | apply p_ret_it | apply p_ret_blk | apply p_panic_it | apply p_panic_blk | apply p_end | (apply p_exit_miss; (· rfl)) | (apply x_region; simp only [List.toList_toArray]) | (apply x_step0; (· rfl); (· simp only [go_sem, *, List.all_map, Function.comp_def, all_true]; try rfl); (· rfl); simp only [putA]) | (apply ac_ret; simp only [putA]) | apply ac_panic | (apply x_callA []; (· simp only [go_sem, *, List.all_map, Function.comp_def, all_true]; try rfl); (· rfl); (· simp only [go_sem, *, List.all_map, Function.comp_def, all_true]; try rfl); (· rfl); (iterate 2 (· simp only [go_sem, *, List.all_map, Function.comp_def, all_true]; try rfl)); (first | apply hck); simp only [afterCall, putA]) | (apply x_panic; (· simp only [go_sem, *, List.all_map, Function.comp_def, all_true]; try rfl); (· rfl); (· simp only [go_sem, *, List.all_map, Function.comp_def, all_true]; try rfl)) | (apply x_step; (iterate 2 (· simp only [go_sem, *, List.all_map, Function.comp_def, all_true]; try rfl)); (· rfl); simp only [putA]) | (apply x_unwanted; (· simp only [go_sem, *, List.all_map, Function.comp_def, all_true]; try rfl); (· rfl); simp only [putA]) | (apply x_condT; (· simp only [go_sem, *, List.all_map, Function.comp_def, all_true]; try rfl)) | (apply x_condF; (· simp only [go_sem, *, List.all_map, Function.comp_def, all_true]; try rfl)) | (apply x_guardS; (· rfl); (fail_if_success (focus (show _ = some true; (· simp only [go_sem, *, List.all_map, Function.comp_def, all_true]; try rfl)))); (· simp only [go_sem, *, List.all_map, Function.comp_def, all_true]; try rfl); all_goals (intro hb; try simp only [Bool.not_eq_true', Bool.not_eq_false'] at hb)) | (apply x_condS; (· simp only [go_sem, *, List.all_map, Function.comp_def, all_true]; try rfl); all_goals (intro hb; try simp only [Bool.not_eq_true', Bool.not_eq_false'] at hb)) | fail
  refine f_ret (by (simp only [go_sem, *]; try rfl)) (by (simp only [go_sem, *]; try rfl)) (by (simp only [go_sem, *, Tryz.results86]; try rfl)) (okOuter_of (S2 := (S1.set g (.arr 5 1 0 (i + 1) (List.map bAV bs ++ [bAV c]))).set a (.cells [.own a 0, .sown g (i + 1) (bs.length + 1)] (some 82))) ?_ ?_) (by (simp only [go_sem, *]; try rfl)) (by (simp only [go_sem, *]; try rfl)) rfl ?_
  · have hb4 : ltL S.length (List.map bAV bs ++ [bAV c]) = true := by rw [show List.map bAV bs ++ [bAV c] = List.map bAV (bs ++ [c]) by simp]; exact bAV_ltL _ _
    rw [Hfin.out]
    refine OuterOk.set (OuterOk.set hO hb4) ?_
    have := Hal.out; simp [Blk.ltB, ltL, AV.lt, this.1, this.2]
  · simpa using Hl1.out
  · have e : ((S1.set g (.arr 5 1 0 (i + 1) (List.map bAV bs ++ [bAV c]))).set a (.cells [.own a 0, .sown g (i + 1) (bs.length + 1)] (some 82)) ++ [Blk.arr 5 1 0 0 [bAV c]]).take S.length = (S.set g (.arr 5 1 0 (i + 1) (List.map bAV bs ++ [bAV c]))).set a (.cells [.own a 0, .sown g (i + 1) (bs.length + 1)] (some 82)) := by
      rw [Hfin.out]
      have := List.take_left (l₁ := (S.set g (.arr 5 1 0 (i + 1) (List.map bAV bs ++ [bAV c]))).set a (.cells [.own a 0, .sown g (i + 1) (bs.length + 1)] (some 82))) (l₂ := [Blk.arr 5 1 0 0 [bAV c]])
      simpa using this
    refine cast ?_ H.out
    rw [show ([c].map bAV) = [bAV c] from rfl, ← e]
    rfl
end Go.Proofs.YtfnnjkbhmoomjaaGreatDoor
namespace Go.Proofs.YtfnnjkbhmoomjaaGreatDoor
open Go Go.Fen
set_option linter.unusedSimpArgs false
set_option linter.unusedVariables false
attribute [local irreducible] RunX WP ACall AnyP OpA ProtL afterCall afterOp
set_option maxRecDepth 8000
def blkE (X : Nat) (ad : AV) (i : Nat) (bs : List UInt8) (fr tz : Int) (hv : AV) (wt rs : Int) : List Blk :=
  [Blk.cells [ad, .sown (X + 6) i bs.length] (some 82), Blk.cells [.int .i64 fr], Blk.cells [.int .i64 tz], Blk.cells [hv], Blk.cells [.int .i64 wt], Blk.cells [.int .i64 rs], Blk.arr 5 1 0 i (bs.map bAV)]
theorem wbE (w0 : World) (X : List Blk) (ad : AV) (had : ad = .nilp ∨ ad = .own X.length 0) (i : Nat) (bs : List UInt8) (fr tz : Int) (hv : AV) (wt rs : Int) (c : UInt8) (hlen : bs.length ≤ 1000000) (R : AOut → List Blk → Prop)
    (h : R (.ret .inil) (X ++ blkE X.length (.own X.length 0) (i + 1) (bs ++ [c]) fr tz hv wt rs)) :
    ACall Tryz.prog w0 86 [.own X.length 0, .int .u8 c.toNat] (X ++ blkE X.length ad i bs fr tz hv wt rs) R := by
  refine writeByte w0 _ X.length (X.length + 6) i ad bs c ⟨by simp [blkE], by rw [List.getElem?_append_right (by omega)]; simp [blkE], had⟩ (by omega) R ?_
  have e : ((X ++ blkE X.length ad i bs fr tz hv wt rs).set (X.length + 6) (.arr 5 1 0 (i + 1) ((bs ++ [c]).map bAV))).set X.length (.cells [.own X.length 0, .sown (X.length + 6) (i + 1) (bs.length + 1)] (some 82)) =
      X ++ blkE X.length (.own X.length 0) (i + 1) (bs ++ [c]) fr tz hv wt rs := by
    unfold blkE
    rw [List.set_append_right _ _ (by omega), List.set_append_right _ _ (by omega)]
    simp
  rw [e]
  exact h
theorem okE (X : List Blk) (hX : OuterOk X) (ad : AV) (had : ad = .nilp ∨ ad = .own X.length 0) (i : Nat) (bs : List UInt8) (fr tz : Int) (f : Nat) (wt rs : Int) : OuterOk (X ++ blkE X.length ad i bs fr tz (.fn (.func f) [] [.own X.length 0]) wt rs) := by
  refine OuterOk.app hX ?_
  unfold blkE
  have h4 : ltL (X.length + 7) (List.map bAV bs) = true := bAV_ltL _ _
  rcases had with rfl | rfl <;> simp [Blk.ltB, ltL, AV.lt, h4]
set_option maxHeartbeats 1000000 in
theorem handE (w0 : World) (X : List Blk) (hX : OuterOk X) (ad : AV) (had : ad = .nilp ∨ ad = .own X.length 0) (i : Nat) (bs : List UInt8) (fr tz : Int) (wt rs : Int) (v : Nat) (hv : v < 64) (hlen : bs.length ≤ 1000000) (R : AOut → List Blk → Prop)
    (h : R (.ret (.tup [])) (X ++ blkE X.length (.own X.length 0) (i + 1) (bs ++ [signC v]) fr tz (.fn (.func 85) [] [.own X.length 0]) wt rs)) :
    ACall Tryz.prog w0 85 [.int .i64 v, .own X.length 0] (X ++ blkE X.length ad i bs fr tz (.fn (.func 85) [] [.own X.length 0]) wt rs) R := by
  have hsg : ([65, 66, 67, 68, 69, 70, 71, 72, 73, 74, 75, 76, 77, 78, 79, 80, 81, 82, 83, 84, 85, 86, 87, 88, 89, 90, 97, 98, 99, 100, 101, 102, 103, 104, 105, 106, 107, 108, 109, 110, 111, 112, 113, 114, 115, 116, 117, 118, 119, 120, 121, 122, 48, 49, 50, 51, 52, 53, 54, 55, 56, 57, 43, 47] : List UInt8)[v]? = some (signC v) := by
    have : ∀ v, v < 64 → signsL[v]? = some (signC v) := by decide +kernel
    exact this v hv
  generalize signC v = c at h hsg
  have hw := wbE w0 X ad had i bs fr tz (.fn (.func 85) [] [.own X.length 0]) wt rs c hlen
  have hok := okE X hX (.own X.length 0) (.inr rfl) (i + 1) (bs ++ [c]) fr tz 85 wt rs
  generalize hS : X ++ blkE X.length (.own X.length 0) (i + 1) (bs ++ [c]) fr tz (.fn (.func 85) [] [.own X.length 0]) wt rs = S2 at *
  have hl2 : S2.length = X.length + 7 := by rw [← hS]; simp [blkE]
  have hl1 : (X ++ blkE X.length ad i bs fr tz (.fn (.func 85) [] [.own X.length 0]) wt rs).length = X.length + 7 := by simp [blkE]
  have hgt : (X ++ blkE X.length ad i bs fr tz (.fn (.func 85) [] [.own X.length 0]) wt rs)[X.length]? = some (Blk.cells [ad, .sown (X.length + 6) i bs.length] (some 82)) := by simp [blkE]
  generalize X ++ blkE X.length ad i bs fr tz (.fn (.func 85) [] [.own X.length 0]) wt rs = S1 at *
  clear hX had hlen hS hv
  have Hok := Lib.hid hok
  clear hok
  refine enter Tryz.func85 rfl (by decide +kernel) (by rw [Tryz.ntmps85]; simp) (by rw [Tryz.ntmps85]; decide) (fun hO => ?_); rw [Tryz.ntmps85]
  repeat' first | refine st ?_ | (refine ca ?_; first | apply hw) | (refine br ?_ ?_; all_goals (intro hb; try simp only [Bool.not_eq_true', Bool.not_eq_false'] at hb)) | fail
  (apply f_endX; iterate 5 (· simp only [go_sem, *, Tryz.results85]; try rfl))
  · exact Hok.out
  · rw [hl1, hl2]
  · exact h
set_option maxHeartbeats 1000000 in
theorem regroupK (w0 : World) (S : List Blk) (fr tz : Int) (f a : Nat) (hfr : IntKind.i64.wrap fr = fr) (R : AOut → List Blk → Prop)
    (h : R (.ret (.fn (.func 114) [] [.own (S.length + 4) 0, .own S.length 0, .own (S.length + 3) 0, .own (S.length + 1) 0, .own (S.length + 2) 0])) (S ++ [Blk.cells [.int .i64 fr], Blk.cells [.int .i64 tz], Blk.cells [.fn (.func f) [] [.own a 0]], Blk.cells [.int .i64 0], Blk.cells [.int .i64 0]])) :
    ACall Tryz.prog w0 84 [.int .i64 fr, .int .i64 tz, .fn (.func f) [] [.own a 0]] S R := by
  refine enterK Tryz.func84 rfl (by decide +kernel) (by rw [Tryz.ntmps84]; simp) (by rw [Tryz.ntmps84]; decide) (fun hO => ?_); rw [Tryz.ntmps84]
  repeat' first | refine st ?_ | (refine br ?_ ?_; all_goals (intro hb; try simp only [Bool.not_eq_true', Bool.not_eq_false'] at hb)) | fail
  (apply f_retK; iterate 4 (· simp only [go_sem, *, Tryz.results84]; try rfl))
  exact h
end Go.Proofs.YtfnnjkbhmoomjaaGreatDoor
namespace Go.Proofs.YtfnnjkbhmoomjaaGreatDoor
open Go Go.Fen
set_option linter.unusedSimpArgs false
set_option linter.unusedVariables false
attribute [local irreducible] RunX WP ACall AnyP OpA ProtL afterCall afterOp
set_option maxRecDepth 8000
theorem orK {a b k : Nat} (ha : a < 4294967296) (hk : k ≤ 16) (hb : b < 2 ^ k) : IntKind.i64.wrap (((BitVec.ofInt IntKind.i64.bits (IntKind.i64.wrap ((a : Int) * 2 ^ min k 64)) ||| BitVec.ofInt IntKind.i64.bits (b : Int)).toNat : Nat) : Int) = ((a * 2 ^ k + b : Nat) : Int) := by
  have h2 : 2 ^ k ≤ 2 ^ 16 := Nat.pow_le_pow_right (by omega) hk
  have h3 : a * 2 ^ k ≤ 4294967296 * 65536 := Nat.mul_le_mul (by omega) h2
  have e1 : IntKind.i64.wrap ((a : Int) * 2 ^ min k 64) = ((a * 2 ^ k : Nat) : Int) := by
    rw [Nat.min_eq_left (by omega), show ((a : Int) * 2 ^ k) = ((a * 2 ^ k : Nat) : Int) by simp]
    exact IntWalk.i64_in _ (by omega)
  rw [e1, BitVec.toNat_or]
  have e2 : (BitVec.ofInt IntKind.i64.bits ((a * 2 ^ k : Nat) : Int)).toNat = a * 2 ^ k := by
    show (BitVec.ofInt 64 _).toNat = _
    rw [BitVec.toNat_ofInt]; omega
  have e3 : (BitVec.ofInt IntKind.i64.bits (b : Int)).toNat = b := by
    show (BitVec.ofInt 64 _).toNat = _
    rw [BitVec.toNat_ofInt]; omega
  rw [e2, e3]
  have e4 : a * 2 ^ k ||| b = a * 2 ^ k + b := by
    have := Nat.shiftLeft_add_eq_or_of_lt hb a
    rw [Nat.shiftLeft_eq] at this
    exact this.symm
  rw [e4]
  exact IntWalk.i64_in _ (by omega)
theorem andK {m k : Nat} (hm : m < 4294967296) (hk : k ≤ 16) : IntKind.i64.wrap (((BitVec.ofInt IntKind.i64.bits (m : Int) &&& BitVec.ofInt IntKind.i64.bits ((2 ^ k - 1 : Nat) : Int)).toNat : Nat) : Int) = ((m % 2 ^ k : Nat) : Int) := by
  rw [BitVec.toNat_and]
  have h2 : 2 ^ k ≤ 2 ^ 16 := Nat.pow_le_pow_right (by omega) hk
  have h0 : 0 < 2 ^ k := Nat.two_pow_pos k
  have e1 : (BitVec.ofInt IntKind.i64.bits (m : Int)).toNat = m := by
    show (BitVec.ofInt 64 _).toNat = _
    rw [BitVec.toNat_ofInt]; omega
  have e2 : (BitVec.ofInt IntKind.i64.bits ((2 ^ k - 1 : Nat) : Int)).toNat = 2 ^ k - 1 := by
    show (BitVec.ofInt 64 _).toNat = _
    rw [BitVec.toNat_ofInt]; omega
  rw [e1, e2, Nat.and_two_pow_sub_one_eq_mod m k]
  have := Nat.mod_lt m h0
  exact IntWalk.i64_in _ (by omega)
theorem fdivK (m k : Nat) (hk : k ≤ 16) : (m : Int).fdiv (2 ^ min k 64) = ((m / 2 ^ k : Nat) : Int) := by
  rw [Nat.min_eq_left (by omega), Int.fdiv_eq_ediv_of_nonneg _ (by exact Int.le_of_lt (Int.pow_pos (by decide)))]
  simp
set_option maxHeartbeats 4000000 in
theorem regE (w0 : World) (X : List Blk) (hX : OuterOk X) (ad : AV) (had : ad = .nilp ∨ ad = .own X.length 0) (i : Nat) (q : EncS) (n : Nat) (hn : n < 256) (hq : (q.wait = 0 ∧ q.rest = 0) ∨ (q.wait = 2 ∧ q.rest < 4) ∨ (q.wait = 4 ∧ q.rest < 16)) (hlen : q.out.length ≤ 100000) (R : AOut → List Blk → Prop)
    (h : ∀ i', R (.ret (.tup [.int .i64 ((encStep q n).wait : Nat), .int .i64 ((encStep q n).rest : Nat)])) (X ++ blkE X.length (.own X.length 0) i' ((encStep q n).out.map signC) 8 6 (.fn (.func 85) [] [.own X.length 0]) ((encStep q n).wait : Nat) ((encStep q n).rest : Nat))) :
    ACall Tryz.prog w0 114 [.int .i64 n, .own (X.length + 5) 0, .own (X.length + 1) 0, .own (X.length + 4) 0, .own (X.length + 2) 0, .own (X.length + 3) 0] (X ++ blkE X.length ad i (q.out.map signC) 8 6 (.fn (.func 85) [] [.own X.length 0]) (q.wait : Nat) (q.rest : Nat)) R := by
  obtain ⟨o, w, r⟩ := q
  have w2 : IntKind.i64.wrap 2 = 2 := by decide
  have w4 : IntKind.i64.wrap 4 = 4 := by decide
  have w6 : IntKind.i64.wrap 6 = 6 := by decide
  have w8 : IntKind.i64.wrap 8 = 8 := by decide
  have w10 : IntKind.i64.wrap 10 = 10 := by decide
  have w12 : IntKind.i64.wrap 12 = 12 := by decide
  have wz : IntKind.i64.wrap 0 = 0 := by decide
  have c0 : ((0 : Nat) : Int) = 0 := rfl
  have c2 : ((2 : Nat) : Int) = 2 := rfl
  have c4 : ((4 : Nat) : Int) = 4 := rfl
  simp only at hq hlen
  obtain ⟨m, hmm⟩ : ∃ m, m = r * 256 + n := ⟨_, rfl⟩
  have hor := orK (a := r) (b := n) (k := 8) (by omega) (by omega) (by omega)
  have hmp : r * 2 ^ 8 + n = m := by omega
  rw [hmp] at hor
  simp only [IntKind.bits] at hor
  clear hmp
  have hm : m < 256 * 2 ^ w := by rcases hq with ⟨rfl, hr⟩ | ⟨rfl, hr⟩ | ⟨rfl, hr⟩ <;> omega
  rcases hq with ⟨rfl, hr⟩ | ⟨rfl, hr⟩ | ⟨rfl, hr⟩
  · have e : encStep ⟨o, 0, r⟩ n = ⟨o ++ [m / 4], 2, m % 4⟩ := by rw [hmm]; rfl
    rw [e] at h
    have hv : m / 4 < 64 := by omega
    have h1 := fdivK m 2 (by omega)
    have h2 := andK (m := m) (k := 2) (by omega) (by omega)
    have h3 : IntKind.i64.wrap (IntKind.i64.wrap (1 * 2 ^ min 2 64) - 1) = 3 := by decide
    have h1 : (m : Int).fdiv (2 ^ min 2 64) = ((m / 4 : Nat) : Int) := h1
    have h2 : IntKind.i64.wrap (((BitVec.ofInt IntKind.i64.bits (m : Int) &&& BitVec.ofInt IntKind.i64.bits 3).toNat : Nat) : Int) = ((m % 4 : Nat) : Int) := h2
    simp only [IntKind.bits] at h2
    have hp := handE w0 X hX ad had i (o.map signC) 8 6 2 m (m / 4) hv (by rw [List.length_map]; omega)
    have hok := fun B => okE X hX (.own X.length 0) (.inr rfl) (i + 1) B 8 6 85 2 ((m % 4 : Nat) : Int)
    simp only [List.map_append, List.map_cons, List.map_nil] at h
    generalize o.map signC ++ [signC (m / 4)] = B at h hp
    generalize o.map signC = A at h hp ⊢
    have h := h (i + 1)
    unfold blkE at h hp hok ⊢
    simp only at h hp hok ⊢
    have Hok := Lib.hid (hok B)
    clear hX had hn hr e hm hmm hv hlen hok
    refine enter Tryz.func114 rfl (by decide +kernel) (by rw [Tryz.ntmps114]; simp) (by rw [Tryz.ntmps114]; decide) (fun hO => ?_); rw [Tryz.ntmps114]
    repeat' first | refine st ?_ | (refine ca ?_; first | apply hp) | (refine br ?_ ?_; all_goals (intro hb; try simp only [Bool.not_eq_true', Bool.not_eq_false'] at hb)) | apply x_loop | apply x_lp | refine sd ?_ | apply pl_nil | (apply c_end; (· decide +kernel)) | refine bd ?_ ?_ | (refine cd ?_; first | apply hp) | fail
    · repeat' first | exact pl_nil | refine pl_none ?_ | refine pl_skip2 (by decide +kernel) ?_
    (apply f_retX; iterate 5 (· simp only [go_sem, *, Tryz.results114]; try rfl))
    · exact Hok.out
    · simp
    · exact h
  · have e : encStep ⟨o, 2, r⟩ n = ⟨o ++ [m / 16], 4, m % 16⟩ := by rw [hmm]; rfl
    rw [e] at h
    have hv : m / 16 < 64 := by omega
    have h1 := fdivK m 4 (by omega)
    have h2 := andK (m := m) (k := 4) (by omega) (by omega)
    have h3 : IntKind.i64.wrap (IntKind.i64.wrap (1 * 2 ^ min 4 64) - 1) = 15 := by decide
    have h1 : (m : Int).fdiv (2 ^ min 4 64) = ((m / 16 : Nat) : Int) := h1
    have h2 : IntKind.i64.wrap (((BitVec.ofInt IntKind.i64.bits (m : Int) &&& BitVec.ofInt IntKind.i64.bits 15).toNat : Nat) : Int) = ((m % 16 : Nat) : Int) := h2
    simp only [IntKind.bits] at h2
    have hp := handE w0 X hX ad had i (o.map signC) 8 6 4 m (m / 16) hv (by rw [List.length_map]; omega)
    have hok := fun B => okE X hX (.own X.length 0) (.inr rfl) (i + 1) B 8 6 85 4 ((m % 16 : Nat) : Int)
    simp only [List.map_append, List.map_cons, List.map_nil] at h
    generalize o.map signC ++ [signC (m / 16)] = B at h hp
    generalize o.map signC = A at h hp ⊢
    have h := h (i + 1)
    unfold blkE at h hp hok ⊢
    simp only at h hp hok ⊢
    have Hok := Lib.hid (hok B)
    clear hX had hn hr e hm hmm hv hlen hok
    refine enter Tryz.func114 rfl (by decide +kernel) (by rw [Tryz.ntmps114]; simp) (by rw [Tryz.ntmps114]; decide) (fun hO => ?_); rw [Tryz.ntmps114]
    repeat' first | refine st ?_ | (refine ca ?_; first | apply hp) | (refine br ?_ ?_; all_goals (intro hb; try simp only [Bool.not_eq_true', Bool.not_eq_false'] at hb)) | apply x_loop | apply x_lp | refine sd ?_ | apply pl_nil | (apply c_end; (· decide +kernel)) | refine bd ?_ ?_ | (refine cd ?_; first | apply hp) | fail
    · repeat' first | exact pl_nil | refine pl_none ?_ | refine pl_skip2 (by decide +kernel) ?_
    (apply f_retX; iterate 5 (· simp only [go_sem, *, Tryz.results114]; try rfl))
    · exact Hok.out
    · simp
    · exact h
  · have e : encStep ⟨o, 4, r⟩ n = ⟨o ++ [m / 64, m % 64], 0, 0⟩ := by rw [hmm]; rfl
    rw [e] at h
    have hv : m / 64 < 64 := by omega
    have hv2 : m % 64 < 64 := by omega
    have h1 := fdivK m 6 (by omega)
    have h2 := andK (m := m) (k := 6) (by omega) (by omega)
    have h3 : IntKind.i64.wrap (IntKind.i64.wrap (1 * 2 ^ min 6 64) - 1) = 63 := by decide
    have h4 : IntKind.i64.wrap (IntKind.i64.wrap (1 * 2 ^ min 0 64) - 1) = 0 := by decide
    have h1 : (m : Int).fdiv (2 ^ min 6 64) = ((m / 64 : Nat) : Int) := h1
    have h2 : IntKind.i64.wrap (((BitVec.ofInt IntKind.i64.bits (m : Int) &&& BitVec.ofInt IntKind.i64.bits 63).toNat : Nat) : Int) = ((m % 64 : Nat) : Int) := h2
    simp only [IntKind.bits] at h2
    obtain ⟨u, hu⟩ : ∃ u, u = m % 64 := ⟨_, rfl⟩
    have hu1 : (u : Int).fdiv (2 ^ min 0 64) = (u : Int) := by have := fdivK u 0 (by omega); simpa using this
    have hu2 := andK (m := u) (k := 0) (by omega) (by omega)
    have hu2 : IntKind.i64.wrap (((BitVec.ofInt IntKind.i64.bits (u : Int) &&& BitVec.ofInt IntKind.i64.bits 0).toNat : Nat) : Int) = 0 := by rw [Nat.pow_zero, Nat.mod_one] at hu2; exact hu2
    simp only [IntKind.bits] at hu2
    rw [← hu] at h2 h hv2
    have hp := handE w0 X hX ad had i (o.map signC) 8 6 6 m (m / 64) hv (by rw [List.length_map]; omega)
    have hp2 := handE w0 X hX (.own X.length 0) (.inr rfl) (i + 1) (o.map signC ++ [signC (m / 64)]) 8 6 0 (u : Int) u hv2 (by rw [List.length_append, List.length_map]; simp; omega)
    have hok := fun B => okE X hX (.own X.length 0) (.inr rfl) (i + 1 + 1) B 8 6 85 0 0
    simp only [List.map_append, List.map_cons, List.map_nil] at h
    rw [show List.map signC o ++ [signC (m / 64), signC u] = (List.map signC o ++ [signC (m / 64)]) ++ [signC u] by simp] at h
    generalize hB : o.map signC ++ [signC (m / 64)] = B at h hp hp2
    generalize hC : B ++ [signC u] = C at h hp2
    generalize o.map signC = A at h hp ⊢
    have h := h (i + 1 + 1)
    unfold blkE at h hp hp2 hok ⊢
    simp only at h hp hp2 hok ⊢
    have Hok := Lib.hid (hok C)
    clear hX had hn hr e hm hmm hv hv2 hlen hok hB hC hu
    refine enter Tryz.func114 rfl (by decide +kernel) (by rw [Tryz.ntmps114]; simp) (by rw [Tryz.ntmps114]; decide) (fun hO => ?_); rw [Tryz.ntmps114]
    repeat' first | refine st ?_ | (refine ca ?_; first | apply hp | apply hp2) | (refine br ?_ ?_; all_goals (intro hb; try simp only [Bool.not_eq_true', Bool.not_eq_false'] at hb)) | apply x_loop | apply x_lp | refine sd ?_ | apply pl_nil | (apply c_end; (· decide +kernel)) | refine bd ?_ ?_ | (refine cd ?_; first | apply hp | apply hp2) | fail
    · repeat' first | exact pl_nil | refine pl_none ?_ | refine pl_skip2 (by decide +kernel) ?_
    · repeat' first | exact pl_nil | refine pl_none ?_ | refine pl_skip2 (by decide +kernel) ?_
    (apply f_retX; iterate 5 (· simp only [go_sem, *, Tryz.results114]; try rfl))
    · exact Hok.out
    · simp
    · exact h
end Go.Proofs.YtfnnjkbhmoomjaaGreatDoor
namespace Go.Proofs.YtfnnjkbhmoomjaaGreatDoor
open Go Go.Fen
set_option linter.unusedSimpArgs false
set_option linter.unusedVariables false
attribute [local irreducible] RunX WP ACall AnyP OpA ProtL afterCall afterOp
set_option maxRecDepth 8000
theorem bldLen (w0 : World) (S : List Blk) (a : Nat) (ad v : AV) (l : Nat) (ha : S[a]? = some (.cells [ad, v] (some 82))) (hv : v = .snil ∧ l = 0 ∨ (∃ g i, v = .sown g i l)) (R : AOut → List Blk → Prop) (h : R (.ret (.int .i64 l)) S) : ACall Tryz.prog w0 45 [.own a 0] S R := by
  rcases hv with ⟨rfl, rfl⟩ | ⟨g, i, rfl⟩
  · have h : R (.ret (.int .i64 0)) S := h
    refine enter Tryz.func45 rfl (by decide +kernel) (by rw [Tryz.ntmps45]; simp) (by rw [Tryz.ntmps45]; decide) (fun hO => ?_); rw [Tryz.ntmps45]
    repeat' first | refine st ?_ | (refine br ?_ ?_; all_goals (intro hb; try simp only [Bool.not_eq_true', Bool.not_eq_false'] at hb)) | fail
    (apply f_ret; iterate 7 (· simp only [go_sem, *, Tryz.results45]; try rfl))
    exact h
  · refine enter Tryz.func45 rfl (by decide +kernel) (by rw [Tryz.ntmps45]; simp) (by rw [Tryz.ntmps45]; decide) (fun hO => ?_); rw [Tryz.ntmps45]
    repeat' first | refine st ?_ | (refine br ?_ ?_; all_goals (intro hb; try simp only [Bool.not_eq_true', Bool.not_eq_false'] at hb)) | fail
    (apply f_ret; iterate 7 (· simp only [go_sem, *, Tryz.results45]; try rfl))
    exact h
theorem bsE (w0 : World) (X : List Blk) (ad : AV) (had : ad = .nilp ∨ ad = .own X.length 0) (i : Nat) (bs : List UInt8) (fr tz : Int) (hv : AV) (wt rs : Int) (hpos : 1 ≤ bs.length) (R : AOut → List Blk → Prop)
    (h : R (.ret (.str bs)) (X ++ [Blk.cells [ad, .sown (X.length + 6) i bs.length] (some 82), Blk.cells [.int .i64 fr], Blk.cells [.int .i64 tz], Blk.cells [hv], Blk.cells [.int .i64 wt], Blk.cells [.int .i64 rs], .dead])) :
    ACall Tryz.prog w0 46 [.own X.length 0] (X ++ blkE X.length ad i bs fr tz hv wt rs) R := by
  refine bldString w0 _ X.length (X.length + 6) i ad bs ⟨by simp [blkE], by rw [List.getElem?_append_right (by omega)]; simp [blkE], had⟩ hpos R ?_
  unfold blkE
  rw [List.set_append_right _ _ (by omega)]
  simpa using h
def encSt (s : List UInt8) (k : Nat) : EncS := ((s.map UInt8.toNat).take k).foldl encStep ⟨[], 0, 0⟩
theorem encSt_succ {s : List UInt8} {k : Nat} {b : UInt8} (h : s[k]? = some b) : encSt s (k + 1) = encStep (encSt s k) b.toNat := by
  unfold encSt
  have : (s.map UInt8.toNat)[k]? = some b.toNat := by rw [List.getElem?_map, h]; rfl
  rw [List.take_add_one, this, List.foldl_append]; rfl
def InvE (q : EncS) : Prop := (q.wait = 0 ∧ q.rest = 0) ∨ (q.wait = 2 ∧ q.rest < 4) ∨ (q.wait = 4 ∧ q.rest < 16)
theorem invE_step {q : EncS} {v : Nat} (h : InvE q) (hv : v < 256) : InvE (encStep q v) ∧ (encStep q v).out.length ≤ q.out.length + 2 := by
  obtain ⟨o, w, r⟩ := q
  unfold InvE encStep at *
  simp only at *
  rcases h with ⟨rfl, rfl⟩ | ⟨rfl, h⟩ | ⟨rfl, h⟩ <;> simp <;> omega
theorem invE_st (s : List UInt8) : ∀ k, k ≤ s.length → InvE (encSt s k) ∧ (encSt s k).out.length ≤ 2 * k
  | 0, _ => by unfold encSt InvE; simp
  | k + 1, h => by
    obtain ⟨h1, h2⟩ := invE_st s k (by omega)
    have hx : s[k]? = some (s[k]'(by omega)) := List.getElem?_eq_getElem (by omega)
    obtain ⟨h3, h4⟩ := invE_step h1 (s[k]'(by omega)).toNat_lt
    rw [encSt_succ hx]
    exact ⟨h3, by omega⟩
theorem encSt_all (s : List UInt8) : (encEnd (encSt s s.length)).map signC = encB s := by
  unfold encSt encB
  rw [← enc_prog _ (toNat_lt s)]
  unfold encP
  rw [show s.length = (s.map UInt8.toNat).length by simp, List.take_length]
theorem encB_len (s : List UInt8) : (encB s).length = (8 * s.length + 5) / 6 := by unfold encB; simp [enc_len]
theorem pad_eq (n : Nat) : (n + 2) / 3 * 4 = (8 * n + 5) / 6 + padN ((8 * n + 5) / 6) := by unfold padN; omega
end Go.Proofs.YtfnnjkbhmoomjaaGreatDoor
namespace Go.Proofs.YtfnnjkbhmoomjaaGreatDoor
open Go Go.Fen
set_option linter.unusedSimpArgs false
set_option linter.unusedVariables false
attribute [local irreducible] RunX WP ACall AnyP OpA ProtL afterCall afterOp
set_option maxRecDepth 8000
theorem bldEx : Go.Proofs.Builder.Extra Tryz.prog Go.Proofs.Tryz.lays105_ren where
  sizeBuilder := by kernel_rfl
  liesBuilder := by kernel_rfl
  t5 := Go.Proofs.Tryz.lays105.t5
  a5 := Go.Proofs.Tryz.lays105.a5
  z5 := Go.Proofs.Tryz.lays105.z5
  v5 := Go.Proofs.Tryz.lays105.v5
  infoByte := by kernel_rfl
  cellsByte := by kernel_rfl
  sizeByte := by kernel_rfl
  neB5 := by decide +kernel
theorem repeatS (w0 : World) (S : List Blk) (s : List UInt8) (n : Nat) (hn : n ≤ 9223372036854775807) (hl : s.length * n ≤ 140737488355328) (R : AOut → List Blk → Prop) (h : R (.ret (.str (Lib.repeatL s n))) S) : ACall Tryz.prog w0 19 [.str s, .int .i64 n] S R := by
  refine ACall.lib (vs := [.string ⟨s.toArray⟩, .int .i64 n]) (v := .str (Lib.repeatL s n)) (c := .string ⟨(Lib.repeatL s n).toArray⟩) (Go.Proofs.enters_of Tryz.func19 (by kernel_rfl) rfl) rfl rfl ?_ h
  intro w hb
  refine (Go.Proofs.Any.strings_Repeat Go.Proofs.Tryz.lays105 bldEx ⟨s.toArray⟩ n w hn (by rw [show (⟨s.toArray⟩ : ByteArray).size = s.length from rfl]; exact hl)).mono ?_
  rintro e w' ⟨rfl, hw⟩
  exact ⟨rfl, hw⟩
theorem repeat_one (c : UInt8) (n : Nat) : Lib.repeatL [c] n = List.replicate n c := by
  induction n with
  | zero => rfl
  | succ n ih => rw [Lib.repeatL, ih, List.replicate_succ]; rfl
end Go.Proofs.YtfnnjkbhmoomjaaGreatDoor
namespace Go.Proofs.YtfnnjkbhmoomjaaGreatDoor
open Go Go.Fen
set_option linter.unusedSimpArgs false
set_option linter.unusedVariables false
attribute [local irreducible] RunX WP ACall AnyP OpA ProtL afterCall afterOp
set_option maxRecDepth 8000
set_option maxHeartbeats 4000000 in
theorem oEncode0 (w0 : World) (S : List Blk) (R : AOut → List Blk → Prop) (h : R (.ret (.tup [.str [], .int .i64 0])) S) : ACall Tryz.prog w0 55 [.str []] S R := by
  have hr := fun S' => regroupK w0 S' 8 6 85 S.length (by decide)
  have hbe := fun S' ha => bldEmpty w0 S' S.length ha
  have hbl := fun S' ha => bldLen w0 S' S.length .nilp .snil 0 ha (.inl ⟨rfl, rfl⟩)
  have hsz := fun S' (R : AOut → List Blk → Prop) (h : R (.ret (.int .i64 0)) S') => oSize w0 S' 0 (by decide) R h
  have hre := fun S' (R : AOut → List Blk → Prop) (h : R (.ret (.str [])) S') => repeatS w0 S' [61] 0 (by decide) (by decide) R h
  have wz : IntKind.i64.wrap 0 = 0 := by decide
  have h : R (.ret (.tup [.str [], .int .i64 0])) S := h
  refine enter Tryz.func55 rfl (by decide +kernel) (by rw [Tryz.ntmps55]; simp) (by rw [Tryz.ntmps55]; decide) (fun hO => ?_); rw [Tryz.ntmps55]
  repeat' first | refine st ?_ | (refine ca ?_; first | apply hr | (apply hbe; (· simp only [go_sem, *]; try rfl)) | (apply hbl; (· simp only [go_sem, *]; try rfl)) | apply hsz | apply hre) | (refine br ?_ ?_; all_goals (intro hb; try simp only [Bool.not_eq_true', Bool.not_eq_false'] at hb)) | apply x_loop | apply x_lp | fail
  (apply f_ret; iterate 7 (· simp only [go_sem, *, Tryz.results55]; try rfl))
  exact h
set_option maxHeartbeats 10000000 in
theorem oEncode (w0 : World) (S : List Blk) (s : List UInt8) (hs : s.length ≤ 4096) (R : AOut → List Blk → Prop) (h : R (.ret (.tup [.str (encF s), .int .i64 0])) S) : ACall Tryz.prog w0 55 [.str s] S R := by
  by_cases hn : s = []
  · subst hn
    exact oEncode0 w0 S R h
  have hpos : 0 < s.length := List.length_pos_iff.2 hn
  have hr := fun S' => regroupK w0 S' 8 6 85 S.length (by decide)
  have d0 : decide ((4096 : Int) < (s.length : Int)) = false := by simp; omega
  have H := Lib.hid h
  clear hn h
  refine enter Tryz.func55 rfl (by decide +kernel) (by rw [Tryz.ntmps55]; simp) (by rw [Tryz.ntmps55]; decide) (fun hO => ?_); rw [Tryz.ntmps55]
  repeat' first | refine st ?_ | (refine ca ?_; first | apply hr) | (refine br ?_ ?_; all_goals (intro hb; try simp only [Bool.not_eq_true', Bool.not_eq_false'] at hb)) | fail
  refine x_thawC (a := S.length) (j := 1) 5 1 (by (simp only [go_sem, *]; try rfl)) (by (simp only [go_sem, *]; try rfl)) (by decide) ?_
  simp only [go_sem, *]
  refine x_ind (fun (p : Nat × Nat × AV) env S' => p.1 ≤ s.length ∧ (p.2.2 = .nilp ∨ p.2.2 = .own S.length 0) ∧ env 1000000 = .dfr [] ∧ env 0 = .str s ∧ env 4 = .own S.length 0 ∧ env 5 = .fn (.func 114) [] [.own (S.length + 5) 0, .own (S.length + 1) 0, .own (S.length + 4) 0, .own (S.length + 2) 0, .own (S.length + 3) 0] ∧
    env 6 = .int .i64 ((encSt s p.1).wait : Nat) ∧ env 7 = .int .i64 ((encSt s p.1).rest : Nat) ∧ env 15 = .int .i64 s.length ∧ env 16 = .int .i64 (p.1 : Int) ∧
    S' = S ++ blkE S.length p.2.2 p.2.1 ((encSt s p.1).out.map signC) 8 6 (.fn (.func 85) [] [.own S.length 0]) ((encSt s p.1).wait : Nat) ((encSt s p.1).rest : Nat)) (fun p => s.length - p.1) (0, 0, .nilp) ?_ ?_
  · exact ⟨Nat.zero_le _, .inl rfl, by (simp only [go_sem, *]; try rfl), by (simp only [go_sem, *]; try rfl), by (simp only [go_sem, *]; try rfl), by (simp only [go_sem, *]; try rfl), by (simp only [go_sem, *]; try rfl), by (simp only [go_sem, *]; try rfl), by (simp only [go_sem, *]; try rfl), by (simp only [go_sem, *]; try rfl), rfl⟩
  · rintro ⟨k, i, ad⟩ env S' ⟨hk, had, e0, f0, f4, f5, f6, f7, f15, f16, rfl⟩ IH
    simp only at hk had f6 f7 f16
    have HI := Lib.hid IH
    obtain ⟨hi1, hi2⟩ := invE_st s k hk
    clear IH
    by_cases hlt : k < s.length
    · obtain ⟨b, hx⟩ : ∃ b, s[k]? = some b := ⟨_, List.getElem?_eq_getElem hlt⟩
      have h1 : decide ((k : Int) < (s.length : Int)) = true := by simpa using hlt
      have hw : IntKind.i64.wrap ((k : Int) + 1) = (k : Int) + 1 := IntWalk.i64_in _ (by omega)
      have hwb : IntKind.i64.wrap (b.toNat : Int) = (b.toNat : Int) := IntWalk.i64_in _ (by have := b.toNat_lt; omega)
      have hg := regE w0 S hO ad had i (encSt s k) b.toNat b.toNat_lt hi1 (by omega)
      rw [← encSt_succ hx] at hg
      generalize hp1 : ((encSt s (k + 1)).wait : Int) = p1 at hg
      generalize hp2 : ((encSt s (k + 1)).rest : Int) = p2 at hg
      generalize hp3 : (encSt s (k + 1)).out.map signC = p3 at hg
      have Hp := Lib.hid (And.intro hp1 (And.intro hp2 hp3))
      clear hp1 hp2 hp3
      unfold blkE at hg
      simp only at hg ⊢
      generalize ((encSt s k).wait : Int) = q1 at *
      generalize ((encSt s k).rest : Int) = q2 at *
      generalize (encSt s k).out.map signC = q3 at *
      have Hlt := Lib.hid hlt
      have HO := Lib.hid hO
      clear hlt hk had hpos hs hi1 hi2 hO
      repeat' first | refine st ?_ | (refine ca ?_; first | apply hg) | (refine br ?_ ?_; all_goals (intro hb; try simp only [Bool.not_eq_true', Bool.not_eq_false'] at hb)) | fail
      intro i'
      repeat' first | refine st ?_ | (refine br ?_ ?_; all_goals (intro hb; try simp only [Bool.not_eq_true', Bool.not_eq_false'] at hb)) | fail
      obtain ⟨hp1, hp2, hp3⟩ := Hp.out
      subst hp1 hp2 hp3
      refine HI.out (k + 1, i', .own S.length 0) _ _ (by have := Hlt.out; simp only; omega) ⟨Hlt.out, .inr rfl, ?_, ?_, ?_, ?_, ?_, ?_, ?_, ?_, rfl⟩
      all_goals (simp only [go_sem, *]; try rfl)
    · have hkl : k = s.length := by omega
      subst hkl
      have h1 : decide ((s.length : Int) < (s.length : Int)) = false := by simp
      have hea := encSt_all s
      have hel := encB_len s
      have hpe := pad_eq s.length
      rw [← hel] at hpe
      have hh := H.out
      unfold encF at hh
      have hsz := fun S' => oSize w0 S' s.length (by omega)
      rw [hpe] at hsz
      have hp4 : padN (encB s).length ≤ 3 := by unfold padN; omega
      have hre := fun S' => repeatS w0 S' [61] (padN (encB s).length) (by omega) (by simp; omega)
      simp only [repeat_one] at hre
      have hwp : IntKind.i64.wrap (((encB s).length + padN (encB s).length : Nat) - ((encB s).length : Int)) = ((padN (encB s).length : Nat) : Int) := by rw [IntWalk.i64_in _ (by omega)]; omega
      have hBl : 1 ≤ (encB s).length := by omega
      have hle : (encB s).length + (List.replicate (padN (encB s).length) (61 : UInt8)).length ≤ 9223372036854775807 := by simp; omega
      generalize encSt s s.length = q at *
      generalize padN (encB s).length = pd at *
      have hBl2 : (encB s).length ≤ 100000 := by omega
      clear hel hpe hs hpos hk HI H hp4
      obtain ⟨o, w, r⟩ := q
      simp only at f6 f7 hi2 ⊢
      unfold InvE at hi1
      simp only at hi1
      generalize encB s = B at *
      rcases hi1 with ⟨rfl, rfl⟩ | ⟨rfl, hr2⟩ | ⟨rfl, hr2⟩
      · have e : o.map signC = B := by simpa [encEnd] using hea
        rw [e]
        have hst := bsE w0 S ad had i B 8 6 (.fn (.func 85) [] [.own S.length 0]) 0 0 hBl
        have hln := fun S' ha => bldLen w0 S' S.length ad (.sown (S.length + 6) i B.length) B.length ha (.inr ⟨_, _, rfl⟩)
        unfold blkE at hst ⊢
        have HO := Lib.hid hO
        clear hea had hO hBl hBl2 hi2 e
        repeat' first | refine st ?_ | (refine ca ?_; first | apply hst | apply hsz | (apply hln; (· simp only [go_sem, *]; try rfl)) | apply hre) | (refine br ?_ ?_; all_goals (intro hb; try simp only [Bool.not_eq_true', Bool.not_eq_false'] at hb)) | fail
        (apply f_ret; iterate 7 (· simp only [go_sem, *, Tryz.results55]; try rfl))
        exact hh
      · have e : o.map signC ++ [signC (r * 16)] = B := by rw [← hea]; simp [encEnd]
        obtain ⟨v, hv⟩ : ∃ v, v = r * 16 := ⟨_, rfl⟩
        rw [← hv] at e
        have hsh : IntKind.i64.wrap ((r : Int) * 2 ^ min 4 64) = (v : Int) := by rw [show (2 : Int) ^ min 4 64 = 16 by decide, IntWalk.i64_in _ (by omega)]; omega
        have hwd : IntKind.i64.wrap 4 = 4 := by decide
        have hc2 : ((2 : Nat) : Int) = 2 := rfl
        have hsg : ([65, 66, 67, 68, 69, 70, 71, 72, 73, 74, 75, 76, 77, 78, 79, 80, 81, 82, 83, 84, 85, 86, 87, 88, 89, 90, 97, 98, 99, 100, 101, 102, 103, 104, 105, 106, 107, 108, 109, 110, 111, 112, 113, 114, 115, 116, 117, 118, 119, 120, 121, 122, 48, 49, 50, 51, 52, 53, 54, 55, 56, 57, 43, 47] : List UInt8)[v]? = some (signC v) := by
          have : ∀ v, v < 64 → signsL[v]? = some (signC v) := by decide +kernel
          exact this v (by omega)
        have hol : o.length ≤ 1000000 := by have := congrArg List.length e; simp at this; omega
        generalize signC v = c at hsg e
        have hwb := wbE w0 S ad had i (o.map signC) 8 6 (.fn (.func 85) [] [.own S.length 0]) 2 (r : Int) c (by rw [List.length_map]; exact hol)
        rw [e] at hwb
        have hst := bsE w0 S (.own S.length 0) (.inr rfl) (i + 1) B 8 6 (.fn (.func 85) [] [.own S.length 0]) 2 (r : Int) hBl
        have hln := fun S' ha => bldLen w0 S' S.length (.own S.length 0) (.sown (S.length + 6) (i + 1) B.length) B.length ha (.inr ⟨_, _, rfl⟩)
        generalize o.map signC = A at *
        unfold blkE at hst hwb ⊢
        have HO := Lib.hid hO
        clear hea had hO hBl hBl2 hi2 e hol hr2 hv
        repeat' first | refine st ?_ | (refine ca ?_; first | apply hwb | apply hst | apply hsz | (apply hln; (· simp only [go_sem, *]; try rfl)) | apply hre) | (refine br ?_ ?_; all_goals (intro hb; try simp only [Bool.not_eq_true', Bool.not_eq_false'] at hb)) | fail
        (apply f_ret; iterate 7 (· simp only [go_sem, *, Tryz.results55]; try rfl))
        exact hh
      · have e : o.map signC ++ [signC (r * 4)] = B := by rw [← hea]; simp [encEnd]
        obtain ⟨v, hv⟩ : ∃ v, v = r * 4 := ⟨_, rfl⟩
        rw [← hv] at e
        have hsh : IntKind.i64.wrap ((r : Int) * 2 ^ min 2 64) = (v : Int) := by rw [show (2 : Int) ^ min 2 64 = 4 by decide, IntWalk.i64_in _ (by omega)]; omega
        have hwd : IntKind.i64.wrap 2 = 2 := by decide
        have hc2 : ((4 : Nat) : Int) = 4 := rfl
        have hsg : ([65, 66, 67, 68, 69, 70, 71, 72, 73, 74, 75, 76, 77, 78, 79, 80, 81, 82, 83, 84, 85, 86, 87, 88, 89, 90, 97, 98, 99, 100, 101, 102, 103, 104, 105, 106, 107, 108, 109, 110, 111, 112, 113, 114, 115, 116, 117, 118, 119, 120, 121, 122, 48, 49, 50, 51, 52, 53, 54, 55, 56, 57, 43, 47] : List UInt8)[v]? = some (signC v) := by
          have : ∀ v, v < 64 → signsL[v]? = some (signC v) := by decide +kernel
          exact this v (by omega)
        have hol : o.length ≤ 1000000 := by have := congrArg List.length e; simp at this; omega
        generalize signC v = c at hsg e
        have hwb := wbE w0 S ad had i (o.map signC) 8 6 (.fn (.func 85) [] [.own S.length 0]) 4 (r : Int) c (by rw [List.length_map]; exact hol)
        rw [e] at hwb
        have hst := bsE w0 S (.own S.length 0) (.inr rfl) (i + 1) B 8 6 (.fn (.func 85) [] [.own S.length 0]) 4 (r : Int) hBl
        have hln := fun S' ha => bldLen w0 S' S.length (.own S.length 0) (.sown (S.length + 6) (i + 1) B.length) B.length ha (.inr ⟨_, _, rfl⟩)
        generalize o.map signC = A at *
        unfold blkE at hst hwb ⊢
        have HO := Lib.hid hO
        clear hea had hO hBl hBl2 hi2 e hol hr2 hv
        repeat' first | refine st ?_ | (refine ca ?_; first | apply hwb | apply hst | apply hsz | (apply hln; (· simp only [go_sem, *]; try rfl)) | apply hre) | (refine br ?_ ?_; all_goals (intro hb; try simp only [Bool.not_eq_true', Bool.not_eq_false'] at hb)) | fail
        (apply f_ret; iterate 7 (· simp only [go_sem, *, Tryz.results55]; try rfl))
        exact hh
end Go.Proofs.YtfnnjkbhmoomjaaGreatDoor
namespace Go.Proofs.YtfnnjkbhmoomjaaGreatDoor
open Go Go.Fen
set_option linter.unusedSimpArgs false
set_option linter.unusedVariables false
attribute [local irreducible] RunX WP ACall AnyP OpA ProtL afterCall afterOp
set_option maxRecDepth 8000
theorem ofNat_toNat {v : Nat} (h : v < 256) : (UInt8.ofNat v).toNat = v := by simp; omega
set_option maxHeartbeats 1000000 in
theorem handD (w0 : World) (X : List Blk) (hX : OuterOk X) (ad : AV) (had : ad = .nilp ∨ ad = .own X.length 0) (i : Nat) (bs : List UInt8) (fr tz : Int) (wt rs : Int) (v : Nat) (hv : v < 256) (hlen : bs.length ≤ 1000000) (R : AOut → List Blk → Prop)
    (h : R (.ret (.tup [])) (X ++ blkE X.length (.own X.length 0) (i + 1) (bs ++ [UInt8.ofNat v]) fr tz (.fn (.func 105) [] [.own X.length 0]) wt rs)) :
    ACall Tryz.prog w0 105 [.int .i64 v, .own X.length 0] (X ++ blkE X.length ad i bs fr tz (.fn (.func 105) [] [.own X.length 0]) wt rs) R := by
  have hsg : IntKind.u8.wrap (v : Int) = (((UInt8.ofNat v).toNat : Nat) : Int) := by rw [ofNat_toNat hv]; exact IntWalk.u8_in _ (by omega)
  generalize UInt8.ofNat v = c at h hsg
  have hw := wbE w0 X ad had i bs fr tz (.fn (.func 105) [] [.own X.length 0]) wt rs c hlen
  have hok := okE X hX (.own X.length 0) (.inr rfl) (i + 1) (bs ++ [c]) fr tz 105 wt rs
  generalize hS : X ++ blkE X.length (.own X.length 0) (i + 1) (bs ++ [c]) fr tz (.fn (.func 105) [] [.own X.length 0]) wt rs = S2 at *
  have hl2 : S2.length = X.length + 7 := by rw [← hS]; simp [blkE]
  have hl1 : (X ++ blkE X.length ad i bs fr tz (.fn (.func 105) [] [.own X.length 0]) wt rs).length = X.length + 7 := by simp [blkE]
  have hgt : (X ++ blkE X.length ad i bs fr tz (.fn (.func 105) [] [.own X.length 0]) wt rs)[X.length]? = some (Blk.cells [ad, .sown (X.length + 6) i bs.length] (some 82)) := by simp [blkE]
  generalize X ++ blkE X.length ad i bs fr tz (.fn (.func 105) [] [.own X.length 0]) wt rs = S1 at *
  clear hX had hlen hS hv
  have Hok := Lib.hid hok
  clear hok
  refine enter Tryz.func105 rfl (by decide +kernel) (by rw [Tryz.ntmps105]; simp) (by rw [Tryz.ntmps105]; decide) (fun hO => ?_); rw [Tryz.ntmps105]
  repeat' first | refine st ?_ | (refine ca ?_; first | apply hw) | (refine br ?_ ?_; all_goals (intro hb; try simp only [Bool.not_eq_true', Bool.not_eq_false'] at hb)) | fail
  (apply f_endX; iterate 5 (· simp only [go_sem, *, Tryz.results105]; try rfl))
  · exact Hok.out
  · rw [hl1, hl2]
  · exact h
set_option maxHeartbeats 4000000 in
theorem regD (w0 : World) (X : List Blk) (hX : OuterOk X) (ad : AV) (had : ad = .nilp ∨ ad = .own X.length 0) (i : Nat) (q : EncS) (n : Nat) (hn : n < 64) (hq : InvD q) (hlen : q.out.length ≤ 100000) (R : AOut → List Blk → Prop)
    (h : ∀ ad' i', (ad' = .nilp ∨ ad' = .own X.length 0) → R (.ret (.tup [.int .i64 ((decStep q n).wait : Nat), .int .i64 ((decStep q n).rest : Nat)])) (X ++ blkE X.length ad' i' ((decStep q n).out.map UInt8.ofNat) 6 8 (.fn (.func 105) [] [.own X.length 0]) ((decStep q n).wait : Nat) ((decStep q n).rest : Nat))) :
    ACall Tryz.prog w0 114 [.int .i64 n, .own (X.length + 5) 0, .own (X.length + 1) 0, .own (X.length + 4) 0, .own (X.length + 2) 0, .own (X.length + 3) 0] (X ++ blkE X.length ad i (q.out.map UInt8.ofNat) 6 8 (.fn (.func 105) [] [.own X.length 0]) (q.wait : Nat) (q.rest : Nat)) R := by
  obtain ⟨o, w, r⟩ := q
  unfold InvD at hq
  have wz0 : IntKind.i64.wrap 0 = 0 := by decide
  have w2 : IntKind.i64.wrap 2 = 2 := by decide
  have w4 : IntKind.i64.wrap 4 = 4 := by decide
  have w6 : IntKind.i64.wrap 6 = 6 := by decide
  have w8 : IntKind.i64.wrap 8 = 8 := by decide
  have w10 : IntKind.i64.wrap 10 = 10 := by decide
  have w12 : IntKind.i64.wrap 12 = 12 := by decide
  have c0 : ((0 : Nat) : Int) = 0 := rfl
  have c2 : ((2 : Nat) : Int) = 2 := rfl
  have c4 : ((4 : Nat) : Int) = 4 := rfl
  have c6 : ((6 : Nat) : Int) = 6 := rfl
  simp only at hq hlen
  obtain ⟨m, hmm⟩ : ∃ m, m = r * 64 + n := ⟨_, rfl⟩
  have hor := orK (a := r) (b := n) (k := 6) (by omega) (by omega) (by omega)
  have hmp : r * 2 ^ 6 + n = m := by omega
  rw [hmp] at hor
  simp only [IntKind.bits] at hor
  clear hmp
  have hm : m < 64 * 2 ^ w := by rcases hq with ⟨rfl, hr⟩ | ⟨rfl, hr⟩ | ⟨rfl, hr⟩ | ⟨rfl, hr⟩ <;> omega
  rcases hq with ⟨rfl, hr⟩ | ⟨rfl, hr⟩ | ⟨rfl, hr⟩ | ⟨rfl, hr⟩
  · have e : decStep ⟨o, 0, r⟩ n = ⟨o, 6, m⟩ := by rw [hmm]; rfl
    rw [e] at h
    have hok := fun B => okE X hX ad had i B 6 8 105 6 (m : Int)
    have h := h ad i had
    simp only at h ⊢
    generalize o.map UInt8.ofNat = A at h ⊢
    unfold blkE at h hok ⊢
    have Hok := Lib.hid (hok A)
    clear hX had hn hr e hm hmm hlen hok
    refine enter Tryz.func114 rfl (by decide +kernel) (by rw [Tryz.ntmps114]; simp) (by rw [Tryz.ntmps114]; decide) (fun hO => ?_); rw [Tryz.ntmps114]
    repeat' first | refine st ?_ | (refine br ?_ ?_; all_goals (intro hb; try simp only [Bool.not_eq_true', Bool.not_eq_false'] at hb)) | apply x_loop | apply x_lp | refine sd ?_ | apply pl_nil | (apply c_end; (· decide +kernel)) | refine bd ?_ ?_ | fail
    (apply f_retX; iterate 5 (· simp only [go_sem, *, Tryz.results114]; try rfl))
    · exact Hok.out
    · simp
    · exact h
  · have e : decStep ⟨o, 6, r⟩ n = ⟨o ++ [m / 16], 4, m % 16⟩ := by rw [hmm]; rfl
    rw [e] at h
    have hv : m / 16 < 256 := by omega
    have h3 : IntKind.i64.wrap (IntKind.i64.wrap (1 * 2 ^ min 4 64) - 1) = 15 := by decide
    have h1 : (m : Int).fdiv (2 ^ min 4 64) = ((m / 16 : Nat) : Int) := fdivK m 4 (by omega)
    have h2 : IntKind.i64.wrap (((BitVec.ofInt IntKind.i64.bits (m : Int) &&& BitVec.ofInt IntKind.i64.bits 15).toNat : Nat) : Int) = ((m % 16 : Nat) : Int) := andK (m := m) (k := 4) (by omega) (by omega)
    simp only [IntKind.bits] at h2
    have hp := handD w0 X hX ad had i (o.map UInt8.ofNat) 6 8 4 m (m / 16) hv (by rw [List.length_map]; omega)
    have hok := fun B => okE X hX (.own X.length 0) (.inr rfl) (i + 1) B 6 8 105 4 ((m % 16 : Nat) : Int)
    simp only [List.map_append, List.map_cons, List.map_nil] at h
    generalize o.map UInt8.ofNat ++ [UInt8.ofNat (m / 16)] = B at h hp
    generalize o.map UInt8.ofNat = A at h hp ⊢
    have h := h (.own X.length 0) (i + 1) (.inr rfl)
    unfold blkE at h hp hok ⊢
    simp only at h hp hok ⊢
    have Hok := Lib.hid (hok B)
    clear hX had hn hr e hm hmm hv hlen hok
    refine enter Tryz.func114 rfl (by decide +kernel) (by rw [Tryz.ntmps114]; simp) (by rw [Tryz.ntmps114]; decide) (fun hO => ?_); rw [Tryz.ntmps114]
    repeat' first | refine st ?_ | (refine ca ?_; first | apply hp) | (refine br ?_ ?_; all_goals (intro hb; try simp only [Bool.not_eq_true', Bool.not_eq_false'] at hb)) | apply x_loop | apply x_lp | refine sd ?_ | apply pl_nil | (apply c_end; (· decide +kernel)) | refine bd ?_ ?_ | (refine cd ?_; first | apply hp) | fail
    · repeat' first | exact pl_nil | refine pl_none ?_ | refine pl_skip2 (by decide +kernel) ?_
    (apply f_retX; iterate 5 (· simp only [go_sem, *, Tryz.results114]; try rfl))
    · exact Hok.out
    · simp
    · exact h
  · have e : decStep ⟨o, 4, r⟩ n = ⟨o ++ [m / 4], 2, m % 4⟩ := by rw [hmm]; rfl
    rw [e] at h
    have hv : m / 4 < 256 := by omega
    have h3 : IntKind.i64.wrap (IntKind.i64.wrap (1 * 2 ^ min 2 64) - 1) = 3 := by decide
    have h1 : (m : Int).fdiv (2 ^ min 2 64) = ((m / 4 : Nat) : Int) := fdivK m 2 (by omega)
    have h2 : IntKind.i64.wrap (((BitVec.ofInt IntKind.i64.bits (m : Int) &&& BitVec.ofInt IntKind.i64.bits 3).toNat : Nat) : Int) = ((m % 4 : Nat) : Int) := andK (m := m) (k := 2) (by omega) (by omega)
    simp only [IntKind.bits] at h2
    have hp := handD w0 X hX ad had i (o.map UInt8.ofNat) 6 8 2 m (m / 4) hv (by rw [List.length_map]; omega)
    have hok := fun B => okE X hX (.own X.length 0) (.inr rfl) (i + 1) B 6 8 105 2 ((m % 4 : Nat) : Int)
    simp only [List.map_append, List.map_cons, List.map_nil] at h
    generalize o.map UInt8.ofNat ++ [UInt8.ofNat (m / 4)] = B at h hp
    generalize o.map UInt8.ofNat = A at h hp ⊢
    have h := h (.own X.length 0) (i + 1) (.inr rfl)
    unfold blkE at h hp hok ⊢
    simp only at h hp hok ⊢
    have Hok := Lib.hid (hok B)
    clear hX had hn hr e hm hmm hv hlen hok
    refine enter Tryz.func114 rfl (by decide +kernel) (by rw [Tryz.ntmps114]; simp) (by rw [Tryz.ntmps114]; decide) (fun hO => ?_); rw [Tryz.ntmps114]
    repeat' first | refine st ?_ | (refine ca ?_; first | apply hp) | (refine br ?_ ?_; all_goals (intro hb; try simp only [Bool.not_eq_true', Bool.not_eq_false'] at hb)) | apply x_loop | apply x_lp | refine sd ?_ | apply pl_nil | (apply c_end; (· decide +kernel)) | refine bd ?_ ?_ | (refine cd ?_; first | apply hp) | fail
    · repeat' first | exact pl_nil | refine pl_none ?_ | refine pl_skip2 (by decide +kernel) ?_
    (apply f_retX; iterate 5 (· simp only [go_sem, *, Tryz.results114]; try rfl))
    · exact Hok.out
    · simp
    · exact h
  · have e : decStep ⟨o, 2, r⟩ n = ⟨o ++ [m], 0, 0⟩ := by rw [hmm]; rfl
    rw [e] at h
    have hv : m < 256 := by omega
    have h3 : IntKind.i64.wrap (IntKind.i64.wrap (1 * 2 ^ min 0 64) - 1) = 0 := by decide
    have h1 : (m : Int).fdiv (2 ^ min 0 64) = (m : Int) := by have := fdivK m 0 (by omega); simpa using this
    have h2 := andK (m := m) (k := 0) (by omega) (by omega)
    have h2 : IntKind.i64.wrap (((BitVec.ofInt IntKind.i64.bits (m : Int) &&& BitVec.ofInt IntKind.i64.bits 0).toNat : Nat) : Int) = 0 := by rw [Nat.pow_zero, Nat.mod_one] at h2; exact h2
    simp only [IntKind.bits] at h2
    have hp := handD w0 X hX ad had i (o.map UInt8.ofNat) 6 8 0 m m hv (by rw [List.length_map]; omega)
    have hok := fun B => okE X hX (.own X.length 0) (.inr rfl) (i + 1) B 6 8 105 0 0
    simp only [List.map_append, List.map_cons, List.map_nil] at h
    generalize o.map UInt8.ofNat ++ [UInt8.ofNat m] = B at h hp
    generalize o.map UInt8.ofNat = A at h hp ⊢
    have h := h (.own X.length 0) (i + 1) (.inr rfl)
    unfold blkE at h hp hok ⊢
    simp only at h hp hok ⊢
    have Hok := Lib.hid (hok B)
    clear hX had hn hr e hm hmm hv hlen hok
    refine enter Tryz.func114 rfl (by decide +kernel) (by rw [Tryz.ntmps114]; simp) (by rw [Tryz.ntmps114]; decide) (fun hO => ?_); rw [Tryz.ntmps114]
    repeat' first | refine st ?_ | (refine ca ?_; first | apply hp) | (refine br ?_ ?_; all_goals (intro hb; try simp only [Bool.not_eq_true', Bool.not_eq_false'] at hb)) | apply x_loop | apply x_lp | refine sd ?_ | apply pl_nil | (apply c_end; (· decide +kernel)) | refine bd ?_ ?_ | (refine cd ?_; first | apply hp) | fail
    · repeat' first | exact pl_nil | refine pl_none ?_ | refine pl_skip2 (by decide +kernel) ?_
    (apply f_retX; iterate 5 (· simp only [go_sem, *, Tryz.results114]; try rfl))
    · exact Hok.out
    · simp
    · exact h
end Go.Proofs.YtfnnjkbhmoomjaaGreatDoor
namespace Go.Proofs.YtfnnjkbhmoomjaaGreatDoor
open Go Go.Fen
set_option linter.unusedSimpArgs false
set_option linter.unusedVariables false
attribute [local irreducible] RunX WP ACall AnyP OpA ProtL afterCall afterOp
set_option maxRecDepth 8000
theorem trimRight (w0 : World) (S : List Blk) (s : List UInt8) (hs : s.length ≤ 1000000000) (R : AOut → List Blk → Prop) (h : R (.ret (.str (trimC s))) S) : ACall Tryz.prog w0 104 [.str s, .str [61]] S R := by
  refine ACall.lib (vs := [.string ⟨s.toArray⟩, .string ⟨#[61]⟩]) (v := .str (trimC s)) (c := .string ⟨(trimC s).toArray⟩) (Go.Proofs.enters_of Tryz.func104 (by kernel_rfl) rfl) rfl rfl ?_ h
  intro w hb
  refine (Go.Proofs.Any.strings_TrimRight_one Go.Proofs.Tryz.lays162 ⟨s.toArray⟩ 61 (by decide) w ?_).mono ?_
  · show s.toArray.size ≤ _
    simp; omega
  · rintro e w' ⟨rfl, rfl⟩
    refine ⟨?_, RowKit.Below.refl _ _⟩
    rfl
def valE (v : Nat) : AV × AV := (.int .u8 ((signC v).toNat : Int), .int .i64 (v : Int))
def valsM (k : Nat) : List (AV × AV) := (List.range k).map valE
theorem valsM_succ (k : Nat) : valsM (k + 1) = valsM k ++ [valE k] := by
  unfold valsM
  rw [List.range_succ, List.map_append]
  rfl
theorem sign_inj : ∀ v, v < 64 → ∀ u, u < v → (((signC v).toNat : Int) == ((signC u).toNat : Int)) = false := by decide +kernel
theorem keq_val {c : UInt8} {u : Nat} : keq (.int .u8 (c.toNat : Int)) (valE u).1 = ((c.toNat : Int) == ((signC u).toNat : Int)) := rfl
theorem vals_new {k : Nat} (hk : k < 64) : (valsM k).any (fun e => keq (.int .u8 ((signC k).toNat : Int)) e.1) = false := by
  rw [List.any_eq_false]
  intro e he
  obtain ⟨u, hu, rfl⟩ := List.mem_map.1 he
  rw [keq_val, sign_inj k hk u (List.mem_range.1 hu)]
  simp
theorem vals_key (k : Nat) : ((valsM k).all fun e => keyA Tryz.prog 5 e.1) = true := by
  rw [List.all_eq_true]
  intro e he
  obtain ⟨u, hu, rfl⟩ := List.mem_map.1 he
  unfold valE
  simp only [keyA, go_sem]
theorem vals_up {k : Nat} (hk : k < 64) : upsertA (.int .u8 ((signC k).toNat : Int)) (.int .i64 (k : Int)) (valsM k) = valsM (k + 1) := by
  unfold upsertA
  rw [vals_new hk, valsM_succ]
  rfl
theorem mapUp (S : List Blk) {k : Nat} (hk : k < 64) : mapUpdateA Tryz.prog (S ++ [Blk.mp false (valsM k)]) 132 (.mown S.length) (.int .u8 ((signC k).toNat : Int)) (.int .i64 (k : Int)) = some (S ++ [Blk.mp false (valsM (k + 1))]) := by
  have hg : (S ++ [Blk.mp false (valsM k)])[S.length]? = some (Blk.mp false (valsM k)) := by simp
  have hkk : keyA Tryz.prog 5 (.int .u8 ((signC k).toNat : Int)) = true := by simp only [keyA, go_sem]
  unfold mapUpdateA
  rw [show Tryz.prog.underlying 132 = some (.map 5 3) by simp only [go_sem]]
  simp only [hg, hkk, vals_key, vals_up hk, Bool.and_self, if_true]
  simp
theorem conv_vals (S : List Blk) (fr : Nat → Bool) (d k : Nat) : ((valsM k).map fun e => (e.1, conv S fr d e.2)) = valsM k := by
  refine (List.map_congr_left fun e he => ?_).trans (List.map_id _)
  obtain ⟨u, hu, rfl⟩ := List.mem_map.1 he
  unfold valE
  cases d <;> rfl
theorem lt_vals (n k : Nat) : (AV.mval (valsM k)).lt n = true := by
  have : ∀ l : List Nat, ltP n (l.map valE) = true := by
    intro l
    induction l with
    | nil => rfl
    | cons a l ih => simp only [List.map_cons, valE, ltP, AV.lt, Bool.true_and]; exact ih
  exact this _
theorem conv_map (S : List Blk) (k : Nat) : conv (S ++ [Blk.mp false (valsM k)]) (fun a => decide (S.length ≤ a)) 4 (.mown S.length) = .mval (valsM k) := by
  have hg : (S ++ [Blk.mp false (valsM k)])[S.length]? = some (Blk.mp false (valsM k)) := by simp
  have hd : decide (S.length ≤ S.length) = true := by simp
  rw [conv]
  simp only [AV.plain, hd, hg, Bool.false_eq_true, if_false, if_true]
  rw [conv_vals]
theorem step_up {P : Program} {S S' : List Blk} {ρ : Operand → AV} {t : TypeId} {m k v : Operand} (h : mapUpdateA P S t (ρ m) (ρ k) (ρ v) = some S') : stepF P S ρ (.mapUpdate t m k v) = some (.tup [], S') := by
  simp only [stepF, h]
theorem find_val (c : UInt8) : (valsM 64).find? (fun e => keq (.int .u8 (c.toNat : Int)) e.1) = (valC c).map valE := by
  have : ∀ n : Nat, n < 256 → ((List.range 64).find? (fun u => ((UInt8.ofNat n).toNat : Int) == ((signC u).toNat : Int))) = valC (UInt8.ofNat n) := by decide +kernel
  have h := this c.toNat c.toNat_lt
  rw [UInt8.ofNat_toNat] at h
  unfold valsM
  rw [List.find?_map, ← h]
  rfl
set_option maxHeartbeats 4000000 in
theorem oValues (w0 : World) (S : List Blk) (R : AOut → List Blk → Prop) (h : R (.ret (.mval (valsM 64))) S) : ACall Tryz.prog w0 106 [] S R := by
  refine enter Tryz.func106 rfl (by decide +kernel) (by rw [Tryz.ntmps106]; simp) (by rw [Tryz.ntmps106]; decide) (fun hO => ?_); rw [Tryz.ntmps106]
  repeat' first | refine st ?_ | (refine br ?_ ?_; all_goals (intro hb; try simp only [Bool.not_eq_true', Bool.not_eq_false'] at hb)) | fail
  refine x_ind (fun (k : Nat) env S' => k ≤ 64 ∧ env 1000000 = .dfr [] ∧ env 1 = .mown S.length ∧ env 4 = .int .i64 (k : Int) ∧ S' = S ++ [Blk.mp false (valsM k)]) (fun k => 64 - k) 0 ?_ ?_
  · exact ⟨by omega, by (simp only [go_sem, *]; try rfl), by (simp only [go_sem, *]; try rfl), by (simp only [go_sem, *]; try rfl), rfl⟩
  · rintro k env S' ⟨hk, e0, f1, f4, rfl⟩ IH
    have HI := Lib.hid IH
    clear IH
    by_cases hlt : k < 64
    · have h1 : decide ((k : Int) < 64) = true := by simp; omega
      have hw : IntKind.i64.wrap ((k : Int) + 1) = (k : Int) + 1 := IntWalk.i64_in _ (by omega)
      have hsg : ([65, 66, 67, 68, 69, 70, 71, 72, 73, 74, 75, 76, 77, 78, 79, 80, 81, 82, 83, 84, 85, 86, 87, 88, 89, 90, 97, 98, 99, 100, 101, 102, 103, 104, 105, 106, 107, 108, 109, 110, 111, 112, 113, 114, 115, 116, 117, 118, 119, 120, 121, 122, 48, 49, 50, 51, 52, 53, 54, 55, 56, 57, 43, 47] : List UInt8)[k]? = some (signC k) := by
        have : ∀ v, v < 64 → signsL[v]? = some (signC v) := by decide +kernel
        exact this k hlt
      have hup := mapUp S hlt
      have Hlt := Lib.hid hlt
      clear hlt hk
      generalize hc : signC k = c at hsg hup
      generalize hM1 : valsM k = M at hup ⊢
      generalize hM : valsM (k + 1) = M1 at hup
      have HM := Lib.hid hM
      clear hM hM1 hc
      have Hup := Lib.hid hup
      clear hup
      repeat' first | refine st ?_ | (refine br ?_ ?_; all_goals (intro hb; try simp only [Bool.not_eq_true', Bool.not_eq_false'] at hb)) | fail
      refine x_step (v := .tup []) (S' := S ++ [Blk.mp false M1]) (by (simp only [go_sem, *]; try rfl)) (step_up Hup.out) (by (simp only [go_sem, *]; try rfl)) ?_
      simp only [putA]
      repeat' first | refine st ?_ | (refine br ?_ ?_; all_goals (intro hb; try simp only [Bool.not_eq_true', Bool.not_eq_false'] at hb)) | fail
      rw [← HM.out]
      refine HI.out (k + 1) _ _ (by have := Hlt.out; omega) ⟨Hlt.out, ?_, ?_, ?_, rfl⟩
      all_goals (simp only [go_sem, *]; try rfl)
    · have hk64 : k = 64 := by omega
      subst hk64
      have h1 : decide ((64 : Int) < 64) = false := by decide
      have hc64 : ((64 : Nat) : Int) = 64 := rfl
      have hcv := conv_map S 64
      have hlt4 := lt_vals S.length 64
      have hok := okOuter_append S [Blk.mp false (valsM 64)]
      have htk : (S ++ [Blk.mp false (valsM 64)]).take S.length = S := List.take_left
      generalize valsM 64 = M at h hcv hlt4 hok htk ⊢
      clear hlt hk HI
      repeat' first | refine st ?_ | (refine br ?_ ?_; all_goals (intro hb; try simp only [Bool.not_eq_true', Bool.not_eq_false'] at hb)) | fail
      exact f_ret (vs := [.mown S.length]) (by (simp only [go_sem, *]; try rfl)) (by (simp only [go_sem, *]; try rfl)) (by (simp only [go_sem, *, Tryz.results106]; try rfl)) hok hcv hlt4 htk h
end Go.Proofs.YtfnnjkbhmoomjaaGreatDoor
namespace Go.Proofs.YtfnnjkbhmoomjaaGreatDoor
open Go Go.Fen
set_option linter.unusedSimpArgs false
set_option linter.unusedVariables false
attribute [local irreducible] RunX WP ACall AnyP OpA ProtL afterCall afterOp
set_option maxRecDepth 8000
theorem step_lk {P : Program} {S : List Blk} {ρ : Operand → AV} {t : TypeId} {x k : Operand} {ok : Bool} {y : AV} (h : lookupA P S t (ρ x) (ρ k) ok = some y) : stepF P S ρ (.lookup t x k ok) = some (y, S) := by
  simp [stepF, pureF, h]
def lkW : Option Nat → AV
  | some v => .tup [.int .i64 v, .bool true]
  | none => .tup [.int .i64 0, .bool false]
theorem lkV (S : List Blk) (c : UInt8) : lookupA Tryz.prog S 132 (.mval (valsM 64)) (.int .u8 (c.toNat : Int)) true = some (lkW (valC c)) := by
  have hkk : keyA Tryz.prog 5 (.int .u8 (c.toNat : Int)) = true := by simp only [keyA, go_sem]
  have hz : zeroV Tryz.prog 3 = some (.int .i64 0) := by simp only [go_sem]
  unfold lookupA
  rw [show Tryz.prog.underlying 132 = some (.map 5 3) by simp only [go_sem]]
  simp only [entsA]
  unfold findA
  simp only [hkk, vals_key, Bool.and_self, if_true, hz, find_val]
  cases valC c <;> rfl
def stD (V : List Nat) : EncS := V.foldl decStep ⟨[], 0, 0⟩
theorem stD_snoc (V : List Nat) (v : Nat) : stD (V ++ [v]) = decStep (stD V) v := by unfold stD; rw [List.foldl_append]; rfl
theorem stD_decV (V : List Nat) (h : ∀ v ∈ V, v < 64) : stD V = decV V := by
  unfold stD
  rw [dec_fold V [] h]
  rfl
theorem vals_snoc (l : List UInt8) (c : UInt8) : valsC (l ++ [c]) = (valsC l).bind fun V => (valC c).map fun v => V ++ [v] := by
  induction l with
  | nil => cases h : valC c <;> simp [valsC, h]
  | cons b l ih =>
    simp only [List.cons_append, valsC]
    cases hb : valC b with
    | none => rfl
    | some v => rw [ih]; cases h1 : valsC l <;> cases h2 : valC c <;> rfl
theorem vals_bad : ∀ {l : List UInt8} {k : Nat} {c : UInt8}, l[k]? = some c → valC c = none → valsC l = none
  | [], k, c, h, _ => by simp at h
  | b :: l, 0, c, h, hc => by
    simp at h; subst h
    simp [valsC, hc]
  | b :: l, k + 1, c, h, hc => by
    have := vals_bad (l := l) (by simpa using h) hc
    simp only [valsC, this]
    cases valC b <;> rfl
theorem stD_inv : ∀ (n : Nat) (V : List Nat), V.length = n → (∀ v ∈ V, v < 64) → InvD (stD V) ∧ (stD V).out.length ≤ V.length
  | 0, V, hn, _ => by
    have : V = [] := List.eq_nil_of_length_eq_zero hn
    subst this
    unfold stD InvD; simp
  | n + 1, V, hn, h => by
    obtain ⟨W, v, rfl⟩ : ∃ W v, V = W ++ [v] := by
      have hne : V ≠ [] := by rintro rfl; simp at hn
      exact ⟨V.dropLast, V.getLast hne, (List.dropLast_concat_getLast hne).symm⟩
    obtain ⟨h1, h2⟩ := stD_inv n W (by simpa using hn) (fun x hx => h x (by simp [hx]))
    obtain ⟨h3, h4⟩ := inv_step h1 (h v (by simp))
    rw [stD_snoc]
    refine ⟨h3, ?_⟩
    rw [List.length_append]
    simp only [List.length_cons, List.length_nil]
    omega
theorem trim_len (s : List UInt8) : (trimC s).length ≤ s.length := by
  obtain ⟨k, hk⟩ := trim_split s
  have := congrArg List.length hk
  simp at this
  omega
def decW : Option (List UInt8) → AV
  | some c => .tup [.str c, .int .i64 0]
  | none => .tup [.str [], .int .i64 6]
theorem dec_outlen : ∀ V : List Nat, (decV V).out.length = V.length * 3 / 4
  | [] => by simp [decV]
  | [_] => by simp [decV]
  | [_, _] => by simp [decV]
  | [_, _, _] => by simp [decV]
  | a :: b :: c :: d :: r => by
    have ih := dec_outlen r
    simp only [decV, List.length_cons]
    omega
end Go.Proofs.YtfnnjkbhmoomjaaGreatDoor
