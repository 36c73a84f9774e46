/- YtfnnjkbhmoomjaaGreatDoorWalk2. Texts of the proof of a law about texts: a layer of abstract values above the worlds, the types, the walks of the functions that the law reaches, the law and its card. Own work of an AI agent. -/
import Derived.Test.YtfnnjkbhmoomjaaGreatDoorWalk1
import Derived.Test.YtfnnjkbhmoomjaaGreatDoorWalk0
set_option linter.all false
set_option linter.unusedVariables false
set_option linter.unusedSimpArgs false
namespace Go.Proofs.YtfnnjkbhmoomjaaGreatDoor
open Go Go.Fen
set_option linter.unusedSimpArgs false
set_option linter.unusedVariables false
attribute [local irreducible] RunX WP ACall AnyP OpA ProtL
set_option maxRecDepth 8000
end Go.Proofs.YtfnnjkbhmoomjaaGreatDoor
namespace Go.Proofs.YtfnnjkbhmoomjaaGreatDoor
open Go Go.Fen
set_option linter.unusedSimpArgs false
set_option linter.unusedVariables false
attribute [local irreducible] RunX WP ACall AnyP OpA ProtL
set_option maxRecDepth 8000
end Go.Proofs.YtfnnjkbhmoomjaaGreatDoor
namespace Go.Proofs.YtfnnjkbhmoomjaaGreatDoor
open Go Go.Fen
set_option linter.unusedSimpArgs false
set_option linter.unusedVariables false
attribute [local irreducible] RunX WP ACall AnyP OpA ProtL
set_option maxRecDepth 8000
end Go.Proofs.YtfnnjkbhmoomjaaGreatDoor
namespace Go.Proofs.YtfnnjkbhmoomjaaGreatDoor
open Go Go.Fen
set_option linter.unusedSimpArgs false
set_option linter.unusedVariables false
attribute [local irreducible] RunX WP ACall AnyP OpA ProtL
set_option maxRecDepth 8000
end Go.Proofs.YtfnnjkbhmoomjaaGreatDoor
namespace Go.Proofs.YtfnnjkbhmoomjaaGreatDoor
open Go Go.Fen
set_option linter.unusedSimpArgs false
set_option linter.unusedVariables false
attribute [local irreducible] RunX WP ACall AnyP OpA ProtL
set_option maxRecDepth 8000
def dst (V : List Nat) (i : Nat) : EncS := (V.take i).foldl decStep ⟨[], 0, 0⟩
def InvD (q : EncS) : Prop := (q.wait = 0 ∧ q.rest = 0) ∨ (q.wait = 6 ∧ q.rest < 64) ∨ (q.wait = 4 ∧ q.rest < 16) ∨ (q.wait = 2 ∧ q.rest < 4)
theorem inv_step {q : EncS} {v : Nat} (h : InvD q) (hv : v < 64) : InvD (decStep q v) ∧ (decStep q v).out.length ≤ q.out.length + 1 := by
  obtain ⟨o, w, r⟩ := q
  unfold InvD decStep at *
  simp only at *
  rcases h with ⟨rfl, rfl⟩ | ⟨rfl, h⟩ | ⟨rfl, h⟩ | ⟨rfl, h⟩ <;> simp <;> omega
end Go.Proofs.YtfnnjkbhmoomjaaGreatDoor
namespace Go.Proofs.YtfnnjkbhmoomjaaGreatDoor
open Go Go.Fen
set_option linter.unusedSimpArgs false
set_option linter.unusedVariables false
attribute [local irreducible] RunX WP ACall AnyP OpA ProtL
set_option maxRecDepth 8000
end Go.Proofs.YtfnnjkbhmoomjaaGreatDoor
namespace Go.Proofs.YtfnnjkbhmoomjaaGreatDoor
open Go Go.Fen
set_option linter.unusedSimpArgs false
set_option linter.unusedVariables false
attribute [local irreducible] RunX WP ACall AnyP OpA ProtL
set_option maxRecDepth 8000
def Ac.av (a : Ac) : AV := .agg [.int .i64 a.kind, .int .i64 a.n, .int .i64 a.m, .int .i64 a.ck, .int .i64 a.cn, .str a.text]
def parV : Option Ac → AV
  | some a => .tup [a.av, .bool true]
  | none => .tup [zeroA.av, .bool false]
theorem cut_len {s w r : List UInt8} (h : cutO s = some (w, r)) : w.length ≤ s.length ∧ r.length ≤ s.length := by
  unfold cutO at h
  split at h
  · cases h
  · cases h
    have htd := congrArg List.length (List.takeWhile_append_dropWhile (p := fun b => b != 59) (l := s))
    rw [List.length_append] at htd
    rw [List.length_drop]
    omega
end Go.Proofs.YtfnnjkbhmoomjaaGreatDoor
namespace Go.Proofs.YtfnnjkbhmoomjaaGreatDoor
open Go Go.Fen
set_option linter.unusedSimpArgs false
set_option linter.unusedVariables false
attribute [local irreducible] RunX WP ACall AnyP OpA ProtL
set_option maxRecDepth 8000
def printV : Option (List UInt8) → AV
  | some s => .tup [.str s, .int .i64 0]
  | none => .tup [.str [], .int .i64 2]
end Go.Proofs.YtfnnjkbhmoomjaaGreatDoor
namespace Go.Proofs.YtfnnjkbhmoomjaaGreatDoor
open Go Go.Fen
set_option linter.unusedSimpArgs false
set_option linter.unusedVariables false
attribute [local irreducible] RunX WP ACall AnyP OpA ProtL
set_option maxRecDepth 8000
def noneV : AV := .ifc 90 (.agg [])
theorem oMustT (w0 : World) (S : List Blk) (R : AOut → List Blk → Prop) (h : R (.ret (.tup [])) S) : ACall Tryz.prog w0 26 [.bool true] S R := by
  refine enter Tryz.func26 rfl (by decide +kernel) (by rw [Tryz.ntmps26]; simp) (by rw [Tryz.ntmps26]; decide) (fun hO => ?_); rw [Tryz.ntmps26]
  repeat' first | apply x_seq | apply x_skip | apply x_block | apply x_exit | apply x_ret | apply x_ops_nil | apply p_blk | apply p_exit_it | apply p_exit_hit | apply p_ret_it | apply p_ret_blk | apply p_panic_it | apply p_panic_blk | apply p_end | (apply p_exit_miss; (· rfl)) | (apply x_region; simp only [List.toList_toArray]) | (apply x_step0; (· rfl); (· simp only [go_sem, *]; try rfl); (· rfl); simp only [putA]) | (apply x_panic; (· simp only [go_sem, *]; try rfl); (· rfl); (· simp only [go_sem, *]; try rfl)) | (apply x_step; (iterate 2 (· simp only [go_sem, *]; try rfl)); (· rfl); simp only [putA]) | (apply x_unwanted; (· simp only [go_sem, *]; try rfl); (· rfl); simp only [putA]) | (apply x_condT; (· simp only [go_sem, *]; try rfl)) | (apply x_condF; (· simp only [go_sem, *]; try rfl)) | (apply x_guardS; (· rfl); (fail_if_success (focus (show _ = some true; (· simp only [go_sem, *]; try rfl)))); (· simp only [go_sem, *]; try rfl); all_goals (intro hb; try simp only [Bool.not_eq_true', Bool.not_eq_false'] at hb)) | (apply x_condS; (· simp only [go_sem, *]; try rfl); all_goals (intro hb; try simp only [Bool.not_eq_true', Bool.not_eq_false'] at hb)) | fail
  (apply f_end; iterate 7 (· simp only [go_sem, *, Tryz.results26]; try rfl))
  exact h
theorem oMustF (w0 : World) (S : List Blk) (R : AOut → List Blk → Prop) (h : R (.panic noneV) S) : ACall Tryz.prog w0 26 [.bool false] S R := by
  refine enter Tryz.func26 rfl (by decide +kernel) (by rw [Tryz.ntmps26]; simp) (by rw [Tryz.ntmps26]; decide) (fun hO => ?_); rw [Tryz.ntmps26]
  repeat' first | apply x_seq | apply x_skip | apply x_block | apply x_exit | apply x_ret | apply x_ops_nil | apply p_blk | apply p_exit_it | apply p_exit_hit | apply p_ret_it | apply p_ret_blk | apply p_panic_it | apply p_panic_blk | apply p_end | (apply p_exit_miss; (· rfl)) | (apply x_region; simp only [List.toList_toArray]) | (apply x_step0; (· rfl); (· simp only [go_sem, *]; try rfl); (· rfl); simp only [putA]) | (apply x_panic; (· simp only [go_sem, *]; try rfl); (· rfl); (· simp only [go_sem, *]; try rfl)) | (apply x_step; (iterate 2 (· simp only [go_sem, *]; try rfl)); (· rfl); simp only [putA]) | (apply x_unwanted; (· simp only [go_sem, *]; try rfl); (· rfl); simp only [putA]) | (apply x_condT; (· simp only [go_sem, *]; try rfl)) | (apply x_condF; (· simp only [go_sem, *]; try rfl)) | (apply x_guardS; (· rfl); (fail_if_success (focus (show _ = some true; (· simp only [go_sem, *]; try rfl)))); (· simp only [go_sem, *]; try rfl); all_goals (intro hb; try simp only [Bool.not_eq_true', Bool.not_eq_false'] at hb)) | (apply x_condS; (· simp only [go_sem, *]; try rfl); all_goals (intro hb; try simp only [Bool.not_eq_true', Bool.not_eq_false'] at hb)) | fail
  (apply f_panic; iterate 6 (· simp only [go_sem, *]; try rfl))
  exact h
theorem lTitled (w0 : World) (S : List Blk) (s : List UInt8) (R : AOut → List Blk → Prop) (h : R (.ret (Ac.av ⟨44, 0, 0, 0, 0, s⟩)) S) : ACall Tryz.prog w0 17 [.str s] S R := by
  unfold Ac.av at h
  refine enter Tryz.func17 rfl (by decide +kernel) (by rw [Tryz.ntmps17]; simp) (by rw [Tryz.ntmps17]; decide) (fun hO => ?_); rw [Tryz.ntmps17]
  repeat' first | apply x_seq | apply x_skip | apply x_block | apply x_exit | apply x_ret | apply x_ops_nil | apply p_blk | apply p_exit_it | apply p_exit_hit | apply p_ret_it | apply p_ret_blk | apply p_panic_it | apply p_panic_blk | apply p_end | (apply p_exit_miss; (· rfl)) | (apply x_region; simp only [List.toList_toArray]) | (apply x_step0; (· rfl); (· simp only [go_sem, *]; try rfl); (· rfl); simp only [putA]) | (apply x_panic; (· simp only [go_sem, *]; try rfl); (· rfl); (· simp only [go_sem, *]; try rfl)) | (apply x_step; (iterate 2 (· simp only [go_sem, *]; try rfl)); (· rfl); simp only [putA]) | (apply x_unwanted; (· simp only [go_sem, *]; try rfl); (· rfl); simp only [putA]) | (apply x_condT; (· simp only [go_sem, *]; try rfl)) | (apply x_condF; (· simp only [go_sem, *]; try rfl)) | (apply x_guardS; (· rfl); (fail_if_success (focus (show _ = some true; (· simp only [go_sem, *]; try rfl)))); (· simp only [go_sem, *]; try rfl); all_goals (intro hb; try simp only [Bool.not_eq_true', Bool.not_eq_false'] at hb)) | (apply x_condS; (· simp only [go_sem, *]; try rfl); all_goals (intro hb; try simp only [Bool.not_eq_true', Bool.not_eq_false'] at hb)) | fail
  (apply f_ret; iterate 7 (· simp only [go_sem, *, Tryz.results17]; try rfl))
  exact h
theorem lClip (w0 : World) (S : List Blk) (s : List UInt8) (R : AOut → List Blk → Prop) (h : R (.ret (Ac.av ⟨46, 0, 0, 0, 0, s⟩)) S) : ACall Tryz.prog w0 20 [.str s] S R := by
  unfold Ac.av at h
  refine enter Tryz.func20 rfl (by decide +kernel) (by rw [Tryz.ntmps20]; simp) (by rw [Tryz.ntmps20]; decide) (fun hO => ?_); rw [Tryz.ntmps20]
  repeat' first | apply x_seq | apply x_skip | apply x_block | apply x_exit | apply x_ret | apply x_ops_nil | apply p_blk | apply p_exit_it | apply p_exit_hit | apply p_ret_it | apply p_ret_blk | apply p_panic_it | apply p_panic_blk | apply p_end | (apply p_exit_miss; (· rfl)) | (apply x_region; simp only [List.toList_toArray]) | (apply x_step0; (· rfl); (· simp only [go_sem, *]; try rfl); (· rfl); simp only [putA]) | (apply x_panic; (· simp only [go_sem, *]; try rfl); (· rfl); (· simp only [go_sem, *]; try rfl)) | (apply x_step; (iterate 2 (· simp only [go_sem, *]; try rfl)); (· rfl); simp only [putA]) | (apply x_unwanted; (· simp only [go_sem, *]; try rfl); (· rfl); simp only [putA]) | (apply x_condT; (· simp only [go_sem, *]; try rfl)) | (apply x_condF; (· simp only [go_sem, *]; try rfl)) | (apply x_guardS; (· rfl); (fail_if_success (focus (show _ = some true; (· simp only [go_sem, *]; try rfl)))); (· simp only [go_sem, *]; try rfl); all_goals (intro hb; try simp only [Bool.not_eq_true', Bool.not_eq_false'] at hb)) | (apply x_condS; (· simp only [go_sem, *]; try rfl); all_goals (intro hb; try simp only [Bool.not_eq_true', Bool.not_eq_false'] at hb)) | fail
  (apply f_ret; iterate 7 (· simp only [go_sem, *, Tryz.results20]; try rfl))
  exact h
theorem lPalette (w0 : World) (S : List Blk) (n c : Int) (R : AOut → List Blk → Prop) (h : R (.ret (Ac.av ⟨45, n, 0, 2, c, []⟩)) S) : ACall Tryz.prog w0 22 [.int .i64 n, .int .i64 c] S R := by
  unfold Ac.av at h
  refine enter Tryz.func22 rfl (by decide +kernel) (by rw [Tryz.ntmps22]; simp) (by rw [Tryz.ntmps22]; decide) (fun hO => ?_); rw [Tryz.ntmps22]
  repeat' first | apply x_seq | apply x_skip | apply x_block | apply x_exit | apply x_ret | apply x_ops_nil | apply p_blk | apply p_exit_it | apply p_exit_hit | apply p_ret_it | apply p_ret_blk | apply p_panic_it | apply p_panic_blk | apply p_end | (apply p_exit_miss; (· rfl)) | (apply x_region; simp only [List.toList_toArray]) | (apply x_step0; (· rfl); (· simp only [go_sem, *]; try rfl); (· rfl); simp only [putA]) | (apply x_panic; (· simp only [go_sem, *]; try rfl); (· rfl); (· simp only [go_sem, *]; try rfl)) | (apply x_step; (iterate 2 (· simp only [go_sem, *]; try rfl)); (· rfl); simp only [putA]) | (apply x_unwanted; (· simp only [go_sem, *]; try rfl); (· rfl); simp only [putA]) | (apply x_condT; (· simp only [go_sem, *]; try rfl)) | (apply x_condF; (· simp only [go_sem, *]; try rfl)) | (apply x_guardS; (· rfl); (fail_if_success (focus (show _ = some true; (· simp only [go_sem, *]; try rfl)))); (· simp only [go_sem, *]; try rfl); all_goals (intro hb; try simp only [Bool.not_eq_true', Bool.not_eq_false'] at hb)) | (apply x_condS; (· simp only [go_sem, *]; try rfl); all_goals (intro hb; try simp only [Bool.not_eq_true', Bool.not_eq_false'] at hb)) | fail
  (apply f_ret; iterate 7 (· simp only [go_sem, *, Tryz.results22]; try rfl))
  exact h
theorem eqA_fields (k n m ck cn : Int) (t : List UInt8) (k2 n2 m2 ck2 cn2 : Int) (t2 : List UInt8) : (k == k2 && (n == n2 && (m == m2 && ((ck == ck2 && cn == cn2) && t == t2)))) = decide ((⟨k, n, m, ck, cn, t⟩ : Ac) = ⟨k2, n2, m2, ck2, cn2, t2⟩) := by
  rw [Bool.eq_iff_iff]
  simp [and_assoc]
theorem oPlainT (w0 : World) (S : List Blk) (a b : Ac) (hab : a = b) (R : AOut → List Blk → Prop) (h : R (.ret (.tup [])) S) : ACall Tryz.prog w0 49 [a.av, b.av] S R := by
  have hm := oMustT w0
  obtain ⟨k, n, m, ck, cn, t⟩ := a
  obtain ⟨k2, n2, m2, ck2, cn2, t2⟩ := b
  have e := eqA_fields k n m ck cn t k2 n2 m2 ck2 cn2 t2
  rw [decide_eq_true hab] at e
  unfold Ac.av
  simp only
  clear hab
  refine enter Tryz.func49 rfl (by decide +kernel) (by rw [Tryz.ntmps49]; simp) (by rw [Tryz.ntmps49]; decide) (fun hO => ?_); rw [Tryz.ntmps49]
  repeat' first | apply x_seq | apply x_skip | apply x_block | apply x_exit | apply x_ret | apply x_ops_nil | apply p_blk | apply p_exit_it | apply p_exit_hit | apply p_ret_it | apply p_ret_blk | apply p_panic_it | apply p_panic_blk | apply p_end | (apply p_exit_miss; (· rfl)) | (apply x_region; simp only [List.toList_toArray]) | (apply x_step0; (· rfl); (· simp only [go_sem, *]; try rfl); (· rfl); simp only [putA]) | (apply x_callA []; (· simp only [go_sem, *]; try rfl); (· rfl); (· simp only [go_sem, *]; try rfl); (· rfl); (iterate 2 (· simp only [go_sem, *]; try rfl)); (first | apply hm); simp only [afterCall, putA]) | (apply x_panic; (· simp only [go_sem, *]; try rfl); (· rfl); (· simp only [go_sem, *]; try rfl)) | (apply x_step; (iterate 2 (· simp only [go_sem, *]; try rfl)); (· rfl); simp only [putA]) | (apply x_unwanted; (· simp only [go_sem, *]; try rfl); (· rfl); simp only [putA]) | (apply x_condT; (· simp only [go_sem, *]; try rfl)) | (apply x_condF; (· simp only [go_sem, *]; try rfl)) | (apply x_guardS; (· rfl); (fail_if_success (focus (show _ = some true; (· simp only [go_sem, *]; try rfl)))); (· simp only [go_sem, *]; try rfl); all_goals (intro hb; try simp only [Bool.not_eq_true', Bool.not_eq_false'] at hb)) | (apply x_condS; (· simp only [go_sem, *]; try rfl); all_goals (intro hb; try simp only [Bool.not_eq_true', Bool.not_eq_false'] at hb)) | fail
  (apply f_end; iterate 7 (· simp only [go_sem, *, Tryz.results49]; try rfl))
  exact h
theorem oPlainF (w0 : World) (S : List Blk) (a b : Ac) (hab : a ≠ b) (R : AOut → List Blk → Prop) (h : R (.panic noneV) S) : ACall Tryz.prog w0 49 [a.av, b.av] S R := by
  have hm := oMustF w0
  obtain ⟨k, n, m, ck, cn, t⟩ := a
  obtain ⟨k2, n2, m2, ck2, cn2, t2⟩ := b
  have e := eqA_fields k n m ck cn t k2 n2 m2 ck2 cn2 t2
  rw [decide_eq_false hab] at e
  unfold Ac.av
  simp only
  unfold noneV at hm h
  clear hab
  refine enter Tryz.func49 rfl (by decide +kernel) (by rw [Tryz.ntmps49]; simp) (by rw [Tryz.ntmps49]; decide) (fun hO => ?_); rw [Tryz.ntmps49]
  repeat' first | apply x_seq | apply x_skip | apply x_block | apply x_exit | apply x_ret | apply x_ops_nil | apply p_blk | apply p_exit_it | apply p_exit_hit | apply p_ret_it | apply p_ret_blk | apply p_panic_it | apply p_panic_blk | apply p_end | (apply p_exit_miss; (· rfl)) | (apply x_region; simp only [List.toList_toArray]) | (apply x_step0; (· rfl); (· simp only [go_sem, *]; try rfl); (· rfl); simp only [putA]) | (apply x_callA []; (· simp only [go_sem, *]; try rfl); (· rfl); (· simp only [go_sem, *]; try rfl); (· rfl); (iterate 2 (· simp only [go_sem, *]; try rfl)); (first | apply hm); simp only [afterCall, putA]) | (apply x_panic; (· simp only [go_sem, *]; try rfl); (· rfl); (· simp only [go_sem, *]; try rfl)) | (apply x_step; (iterate 2 (· simp only [go_sem, *]; try rfl)); (· rfl); simp only [putA]) | (apply x_unwanted; (· simp only [go_sem, *]; try rfl); (· rfl); simp only [putA]) | (apply x_condT; (· simp only [go_sem, *]; try rfl)) | (apply x_condF; (· simp only [go_sem, *]; try rfl)) | (apply x_guardS; (· rfl); (fail_if_success (focus (show _ = some true; (· simp only [go_sem, *]; try rfl)))); (· simp only [go_sem, *]; try rfl); all_goals (intro hb; try simp only [Bool.not_eq_true', Bool.not_eq_false'] at hb)) | (apply x_condS; (· simp only [go_sem, *]; try rfl); all_goals (intro hb; try simp only [Bool.not_eq_true', Bool.not_eq_false'] at hb)) | fail
  (apply f_panic; iterate 6 (· simp only [go_sem, *]; try rfl))
  exact h
end Go.Proofs.YtfnnjkbhmoomjaaGreatDoor
namespace Go.Proofs.YtfnnjkbhmoomjaaGreatDoor
open Go Go.Fen
set_option linter.unusedSimpArgs false
set_option linter.unusedVariables false
attribute [local irreducible] RunX WP ACall AnyP OpA ProtL
set_option maxRecDepth 8000
set_option maxHeartbeats 4000000 in
theorem oTitle (w0 : World) (S : List Blk) (s : List UInt8) (hs : s.length ≤ 10000000) (R : AOut → List Blk → Prop) (h : R (if titleB s then .ret (.tup []) else .panic noneV) S) : ACall Tryz.prog w0 50 [.str s] S R := by
  have hco := fun S' => uCodes w0 S' s (by omega)
  have hcl := codesB_lt s
  have hte := fun S' => uText w0 S' (codesB s) (fun c hc => by have := hcl.1 c hc; omega) (by omega)
  have hll : (codesB s).length ≤ 100000000 := by omega
  unfold titleB nameT at h
  generalize codesB s = l at h hco hte hll
  have hmT := oMustT w0
  have hmF := oMustF w0
  unfold noneV at hmF h
  have bad : (decide (s.length ≤ 510) && (l.all okT && decide (textS l = s))) = false → R (.panic (.ifc 90 (.agg []))) S := fun e => by rw [e] at h; exact h
  have good : (decide (s.length ≤ 510) && (l.all okT && decide (textS l = s))) = true → R (.ret (.tup [])) S := fun e => by rw [e] at h; exact h
  clear h hcl
  by_cases h40 : s.length ≤ 510
  case neg =>
    have d0 : decide ((s.length : Int) ≤ 510) = false := by simp; omega
    have hh := bad (by rw [decide_eq_false h40, Bool.false_and])
    clear h40 hs hte bad good hmT hll
    refine enter Tryz.func50 rfl (by decide +kernel) (by rw [Tryz.ntmps50]; simp) (by rw [Tryz.ntmps50]; decide) (fun hO => ?_); rw [Tryz.ntmps50]
    repeat' first | apply x_seq | apply x_skip | apply x_block | apply x_exit | apply x_ret | apply x_ops_nil | apply p_blk | apply p_exit_it | apply p_exit_hit | apply p_ret_it | apply p_ret_blk | apply p_panic_it | apply p_panic_blk | apply p_end | (apply p_exit_miss; (· rfl)) | (apply x_region; simp only [List.toList_toArray]) | (apply x_step0; (· rfl); (· simp only [go_sem, *]; try rfl); (· rfl); simp only [putA]) | (apply x_callA []; (· simp only [go_sem, *]; try rfl); (· rfl); (· simp only [go_sem, *]; try rfl); (· rfl); (iterate 2 (· simp only [go_sem, *]; try rfl)); (first | apply hco | apply hmF); simp only [afterCall, putA]) | (apply x_panic; (· simp only [go_sem, *]; try rfl); (· rfl); (· simp only [go_sem, *]; try rfl)) | (apply x_step; (iterate 2 (· simp only [go_sem, *]; try rfl)); (· rfl); simp only [putA]) | (apply x_unwanted; (· simp only [go_sem, *]; try rfl); (· rfl); simp only [putA]) | (apply x_condT; (· simp only [go_sem, *]; try rfl)) | (apply x_condF; (· simp only [go_sem, *]; try rfl)) | (apply x_guardS; (· rfl); (fail_if_success (focus (show _ = some true; (· simp only [go_sem, *]; try rfl)))); (· simp only [go_sem, *]; try rfl); all_goals (intro hb; try simp only [Bool.not_eq_true', Bool.not_eq_false'] at hb)) | (apply x_condS; (· simp only [go_sem, *]; try rfl); all_goals (intro hb; try simp only [Bool.not_eq_true', Bool.not_eq_false'] at hb)) | fail
    (apply f_panic; iterate 6 (· simp only [go_sem, *]; try rfl))
    exact hh
  have d0 : decide ((s.length : Int) ≤ 510) = true := by simp; omega
  rw [decide_eq_true h40, Bool.true_and] at bad good
  by_cases htx : textS l = s
  case neg =>
    have d1 : (textS l == s) = false := by rw [beq_eq_false_iff_ne]; exact htx
    have hh := bad (by rw [decide_eq_false htx, Bool.and_false])
    clear h40 hs bad good hmT hll htx
    refine enter Tryz.func50 rfl (by decide +kernel) (by rw [Tryz.ntmps50]; simp) (by rw [Tryz.ntmps50]; decide) (fun hO => ?_); rw [Tryz.ntmps50]
    repeat' first | apply x_seq | apply x_skip | apply x_block | apply x_exit | apply x_ret | apply x_ops_nil | apply p_blk | apply p_exit_it | apply p_exit_hit | apply p_ret_it | apply p_ret_blk | apply p_panic_it | apply p_panic_blk | apply p_end | (apply p_exit_miss; (· rfl)) | (apply x_region; simp only [List.toList_toArray]) | (apply x_step0; (· rfl); (· simp only [go_sem, *]; try rfl); (· rfl); simp only [putA]) | (apply x_callA []; (· simp only [go_sem, *]; try rfl); (· rfl); (· simp only [go_sem, *]; try rfl); (· rfl); (iterate 2 (· simp only [go_sem, *]; try rfl)); (first | apply hco | apply hte | apply hmF); simp only [afterCall, putA]) | (apply x_panic; (· simp only [go_sem, *]; try rfl); (· rfl); (· simp only [go_sem, *]; try rfl)) | (apply x_step; (iterate 2 (· simp only [go_sem, *]; try rfl)); (· rfl); simp only [putA]) | (apply x_unwanted; (· simp only [go_sem, *]; try rfl); (· rfl); simp only [putA]) | (apply x_condT; (· simp only [go_sem, *]; try rfl)) | (apply x_condF; (· simp only [go_sem, *]; try rfl)) | (apply x_guardS; (· rfl); (fail_if_success (focus (show _ = some true; (· simp only [go_sem, *]; try rfl)))); (· simp only [go_sem, *]; try rfl); all_goals (intro hb; try simp only [Bool.not_eq_true', Bool.not_eq_false'] at hb)) | (apply x_condS; (· simp only [go_sem, *]; try rfl); all_goals (intro hb; try simp only [Bool.not_eq_true', Bool.not_eq_false'] at hb)) | fail
    (apply f_panic; iterate 6 (· simp only [go_sem, *]; try rfl))
    exact hh
  have d1 : (textS l == s) = true := by rw [beq_iff_eq]; exact htx
  rw [decide_eq_true htx, Bool.and_true] at bad good
  have Bad := Lib.hid bad
  have Good := Lib.hid good
  have HmF := Lib.hid hmF
  clear h40 hs htx bad good hmF
  refine enter Tryz.func50 rfl (by decide +kernel) (by rw [Tryz.ntmps50]; simp) (by rw [Tryz.ntmps50]; decide) (fun hO => ?_); rw [Tryz.ntmps50]
  repeat' first | apply x_seq | apply x_skip | apply x_block | apply x_exit | apply x_ret | apply x_ops_nil | apply p_blk | apply p_exit_it | apply p_exit_hit | apply p_ret_it | apply p_ret_blk | apply p_panic_it | apply p_panic_blk | apply p_end | (apply p_exit_miss; (· rfl)) | (apply x_region; simp only [List.toList_toArray]) | (apply x_step0; (· rfl); (· simp only [go_sem, *]; try rfl); (· rfl); simp only [putA]) | (apply x_callA []; (· simp only [go_sem, *]; try rfl); (· rfl); (· simp only [go_sem, *]; try rfl); (· rfl); (iterate 2 (· simp only [go_sem, *]; try rfl)); (first | apply hco | apply hte | apply hmT); simp only [afterCall, putA]) | (apply x_panic; (· simp only [go_sem, *]; try rfl); (· rfl); (· simp only [go_sem, *]; try rfl)) | (apply x_step; (iterate 2 (· simp only [go_sem, *]; try rfl)); (· rfl); simp only [putA]) | (apply x_unwanted; (· simp only [go_sem, *]; try rfl); (· rfl); simp only [putA]) | (apply x_condT; (· simp only [go_sem, *]; try rfl)) | (apply x_condF; (· simp only [go_sem, *]; try rfl)) | (apply x_guardS; (· rfl); (fail_if_success (focus (show _ = some true; (· simp only [go_sem, *]; try rfl)))); (· simp only [go_sem, *]; try rfl); all_goals (intro hb; try simp only [Bool.not_eq_true', Bool.not_eq_false'] at hb)) | (apply x_condS; (· simp only [go_sem, *]; try rfl); all_goals (intro hb; try simp only [Bool.not_eq_true', Bool.not_eq_false'] at hb)) | fail
  refine x_ind (fun (k : Nat) env S' => k ≤ l.length ∧ (∀ j c, j < k → l[j]? = some c → okT c = true) ∧ env 1000000 = .dfr [] ∧ env 17 = .sval false (l.map Co) ∧ env 18 = .int .i64 l.length ∧ env 19 = .int .i64 (k : Int) ∧ S' = S) (fun k => l.length - k) 0 ?_ ?_
  · exact ⟨Nat.zero_le _, fun j c hj => absurd hj (by omega), by (simp only [go_sem, *]; try rfl), by (simp only [go_sem, *]; try rfl), by (simp only [go_sem, *]; try rfl), by (simp only [go_sem, *]; try rfl), rfl⟩
  · rintro k env S' ⟨hk, hall, e0, e17, e18, e19, rfl⟩ IH
    have HI := Lib.hid IH
    have Hall := Lib.hid hall
    clear IH hall hco hte
    by_cases hlt : k < l.length
    · obtain ⟨c, hx⟩ : ∃ c, l[k]? = some c := ⟨_, List.getElem?_eq_getElem hlt⟩
      have h1 : decide ((k : Int) < (l.length : Int)) = true := by simpa using hlt
      have hw : IntKind.i64.wrap ((k : Int) + 1) = (k : Int) + 1 := IntWalk.i64_in _ (by omega)
      have bad : okT c = false → R (.panic (.ifc 90 (.agg []))) S' := fun hc => Bad.out (by
        rw [List.all_eq_false]
        exact ⟨c, List.mem_of_getElem? hx, by simp [hc]⟩)
      have good : okT c = true → ∀ j d, j < k + 1 → l[j]? = some d → okT d = true := fun hc j d hj hd => by
        by_cases e : j = k
        · rw [e, hx] at hd; cases hd; exact hc
        · exact Hall.out j d (by omega) hd
      have Bad2 := Lib.hid bad
      have Good2 := Lib.hid good
      have Hlt := Lib.hid hlt
      clear bad good hlt hk hll
      by_cases q1 : c < 32
      · have d2 : decide ((32 : Int) ≤ (c : Int)) = false := by simp; omega
        have hc : okT c = false := by unfold okT; rw [decide_eq_false (by omega)]; rfl
        have hb := Bad2.out hc
        have hmF := HmF.out
        clear q1 hc hmT
        repeat' first | apply x_seq | apply x_skip | apply x_block | apply x_exit | apply x_ret | apply x_ops_nil | apply p_blk | apply p_exit_it | apply p_exit_hit | apply p_ret_it | apply p_ret_blk | apply p_panic_it | apply p_panic_blk | apply p_end | (apply p_exit_miss; (· rfl)) | (apply x_region; simp only [List.toList_toArray]) | (apply x_step0; (· rfl); (· simp only [go_sem, *, Co]; try rfl); (· rfl); simp only [putA]) | (apply x_callA []; (· simp only [go_sem, *, Co]; try rfl); (· rfl); (· simp only [go_sem, *, Co]; try rfl); (· rfl); (iterate 2 (· simp only [go_sem, *, Co]; try rfl)); (first | apply hmF); simp only [afterCall, putA]) | (apply x_panic; (· simp only [go_sem, *, Co]; try rfl); (· rfl); (· simp only [go_sem, *, Co]; try rfl)) | (apply x_step; (iterate 2 (· simp only [go_sem, *, Co]; try rfl)); (· rfl); simp only [putA]) | (apply x_unwanted; (· simp only [go_sem, *, Co]; try rfl); (· rfl); simp only [putA]) | (apply x_condT; (· simp only [go_sem, *, Co]; try rfl)) | (apply x_condF; (· simp only [go_sem, *, Co]; try rfl)) | (apply x_guardS; (· rfl); (fail_if_success (focus (show _ = some true; (· simp only [go_sem, *, Co]; try rfl)))); (· simp only [go_sem, *, Co]; try rfl); all_goals (intro hb; try simp only [Bool.not_eq_true', Bool.not_eq_false'] at hb)) | (apply x_condS; (· simp only [go_sem, *, Co]; try rfl); all_goals (intro hb; try simp only [Bool.not_eq_true', Bool.not_eq_false'] at hb)) | fail
        (apply f_panic; iterate 6 (· simp only [go_sem, *]; try rfl))
        exact hb
      have d2 : decide ((32 : Int) ≤ (c : Int)) = true := by simp; omega
      by_cases q2 : 127 ≤ c
      · have d3 : decide ((c : Int) < 127) = false := by simp; omega
        by_cases q3 : c ≤ 159
        · have d4 : decide ((159 : Int) < (c : Int)) = false := by simp; omega
          have hc : okT c = false := by unfold okT; rw [decide_eq_true q2, decide_eq_true q3]; simp
          have hb := Bad2.out hc
          have hmF := HmF.out
          clear q1 q2 q3 hc hmT
          repeat' first | apply x_seq | apply x_skip | apply x_block | apply x_exit | apply x_ret | apply x_ops_nil | apply p_blk | apply p_exit_it | apply p_exit_hit | apply p_ret_it | apply p_ret_blk | apply p_panic_it | apply p_panic_blk | apply p_end | (apply p_exit_miss; (· rfl)) | (apply x_region; simp only [List.toList_toArray]) | (apply x_step0; (· rfl); (· simp only [go_sem, *, Co]; try rfl); (· rfl); simp only [putA]) | (apply x_callA []; (· simp only [go_sem, *, Co]; try rfl); (· rfl); (· simp only [go_sem, *, Co]; try rfl); (· rfl); (iterate 2 (· simp only [go_sem, *, Co]; try rfl)); (first | apply hmF); simp only [afterCall, putA]) | (apply x_panic; (· simp only [go_sem, *, Co]; try rfl); (· rfl); (· simp only [go_sem, *, Co]; try rfl)) | (apply x_step; (iterate 2 (· simp only [go_sem, *, Co]; try rfl)); (· rfl); simp only [putA]) | (apply x_unwanted; (· simp only [go_sem, *, Co]; try rfl); (· rfl); simp only [putA]) | (apply x_condT; (· simp only [go_sem, *, Co]; try rfl)) | (apply x_condF; (· simp only [go_sem, *, Co]; try rfl)) | (apply x_guardS; (· rfl); (fail_if_success (focus (show _ = some true; (· simp only [go_sem, *, Co]; try rfl)))); (· simp only [go_sem, *, Co]; try rfl); all_goals (intro hb; try simp only [Bool.not_eq_true', Bool.not_eq_false'] at hb)) | (apply x_condS; (· simp only [go_sem, *, Co]; try rfl); all_goals (intro hb; try simp only [Bool.not_eq_true', Bool.not_eq_false'] at hb)) | fail
          (apply f_panic; iterate 6 (· simp only [go_sem, *]; try rfl))
          exact hb
        · have d4 : decide ((159 : Int) < (c : Int)) = true := by simp; omega
          have hc : okT c = true := by unfold okT; rw [decide_eq_false q3, decide_eq_true (by omega)]; simp
          clear q1 q2 q3
          repeat' first | apply x_seq | apply x_skip | apply x_block | apply x_exit | apply x_ret | apply x_ops_nil | apply p_blk | apply p_exit_it | apply p_exit_hit | apply p_ret_it | apply p_ret_blk | apply p_panic_it | apply p_panic_blk | apply p_end | (apply p_exit_miss; (· rfl)) | (apply x_region; simp only [List.toList_toArray]) | (apply x_step0; (· rfl); (· simp only [go_sem, *, Co]; try rfl); (· rfl); simp only [putA]) | (apply x_callA []; (· simp only [go_sem, *, Co]; try rfl); (· rfl); (· simp only [go_sem, *, Co]; try rfl); (· rfl); (iterate 2 (· simp only [go_sem, *, Co]; try rfl)); (first | apply hmT); simp only [afterCall, putA]) | (apply x_panic; (· simp only [go_sem, *, Co]; try rfl); (· rfl); (· simp only [go_sem, *, Co]; try rfl)) | (apply x_step; (iterate 2 (· simp only [go_sem, *, Co]; try rfl)); (· rfl); simp only [putA]) | (apply x_unwanted; (· simp only [go_sem, *, Co]; try rfl); (· rfl); simp only [putA]) | (apply x_condT; (· simp only [go_sem, *, Co]; try rfl)) | (apply x_condF; (· simp only [go_sem, *, Co]; try rfl)) | (apply x_guardS; (· rfl); (fail_if_success (focus (show _ = some true; (· simp only [go_sem, *, Co]; try rfl)))); (· simp only [go_sem, *, Co]; try rfl); all_goals (intro hb; try simp only [Bool.not_eq_true', Bool.not_eq_false'] at hb)) | (apply x_condS; (· simp only [go_sem, *, Co]; try rfl); all_goals (intro hb; try simp only [Bool.not_eq_true', Bool.not_eq_false'] at hb)) | fail
          refine HI.out (k + 1) _ _ (by have := Hlt.out; omega) ⟨Hlt.out, Good2.out hc, ?_, ?_, ?_, ?_, rfl⟩
          all_goals (simp only [go_sem, *]; try rfl)
      · have d3 : decide ((c : Int) < 127) = true := by simp; omega
        have hc : okT c = true := by unfold okT; rw [decide_eq_false q2, decide_eq_true (by omega)]; rfl
        clear q1 q2
        repeat' first | apply x_seq | apply x_skip | apply x_block | apply x_exit | apply x_ret | apply x_ops_nil | apply p_blk | apply p_exit_it | apply p_exit_hit | apply p_ret_it | apply p_ret_blk | apply p_panic_it | apply p_panic_blk | apply p_end | (apply p_exit_miss; (· rfl)) | (apply x_region; simp only [List.toList_toArray]) | (apply x_step0; (· rfl); (· simp only [go_sem, *, Co]; try rfl); (· rfl); simp only [putA]) | (apply x_callA []; (· simp only [go_sem, *, Co]; try rfl); (· rfl); (· simp only [go_sem, *, Co]; try rfl); (· rfl); (iterate 2 (· simp only [go_sem, *, Co]; try rfl)); (first | apply hmT); simp only [afterCall, putA]) | (apply x_panic; (· simp only [go_sem, *, Co]; try rfl); (· rfl); (· simp only [go_sem, *, Co]; try rfl)) | (apply x_step; (iterate 2 (· simp only [go_sem, *, Co]; try rfl)); (· rfl); simp only [putA]) | (apply x_unwanted; (· simp only [go_sem, *, Co]; try rfl); (· rfl); simp only [putA]) | (apply x_condT; (· simp only [go_sem, *, Co]; try rfl)) | (apply x_condF; (· simp only [go_sem, *, Co]; try rfl)) | (apply x_guardS; (· rfl); (fail_if_success (focus (show _ = some true; (· simp only [go_sem, *, Co]; try rfl)))); (· simp only [go_sem, *, Co]; try rfl); all_goals (intro hb; try simp only [Bool.not_eq_true', Bool.not_eq_false'] at hb)) | (apply x_condS; (· simp only [go_sem, *, Co]; try rfl); all_goals (intro hb; try simp only [Bool.not_eq_true', Bool.not_eq_false'] at hb)) | fail
        refine HI.out (k + 1) _ _ (by have := Hlt.out; omega) ⟨Hlt.out, Good2.out hc, ?_, ?_, ?_, ?_, rfl⟩
        all_goals (simp only [go_sem, *]; try rfl)
    · have h1 : decide ((k : Int) < (l.length : Int)) = false := by simpa using hlt
      have hh := Good.out (by
        rw [List.all_eq_true]
        intro c hc
        obtain ⟨j, hj⟩ := List.getElem?_of_mem hc
        exact Hall.out j c (by have := (List.getElem?_eq_some_iff.1 hj).1; omega) hj)
      clear hlt hk Hall HI hll
      repeat' first | apply x_seq | apply x_skip | apply x_block | apply x_exit | apply x_ret | apply x_ops_nil | apply p_blk | apply p_exit_it | apply p_exit_hit | apply p_ret_it | apply p_ret_blk | apply p_panic_it | apply p_panic_blk | apply p_end | (apply p_exit_miss; (· rfl)) | (apply x_region; simp only [List.toList_toArray]) | (apply x_step0; (· rfl); (· simp only [go_sem, *]; try rfl); (· rfl); simp only [putA]) | (apply x_panic; (· simp only [go_sem, *]; try rfl); (· rfl); (· simp only [go_sem, *]; try rfl)) | (apply x_step; (iterate 2 (· simp only [go_sem, *]; try rfl)); (· rfl); simp only [putA]) | (apply x_unwanted; (· simp only [go_sem, *]; try rfl); (· rfl); simp only [putA]) | (apply x_condT; (· simp only [go_sem, *]; try rfl)) | (apply x_condF; (· simp only [go_sem, *]; try rfl)) | (apply x_guardS; (· rfl); (fail_if_success (focus (show _ = some true; (· simp only [go_sem, *]; try rfl)))); (· simp only [go_sem, *]; try rfl); all_goals (intro hb; try simp only [Bool.not_eq_true', Bool.not_eq_false'] at hb)) | (apply x_condS; (· simp only [go_sem, *]; try rfl); all_goals (intro hb; try simp only [Bool.not_eq_true', Bool.not_eq_false'] at hb)) | fail
      (apply f_end; iterate 7 (· simp only [go_sem, *, Tryz.results50]; try rfl))
      exact hh
end Go.Proofs.YtfnnjkbhmoomjaaGreatDoor
namespace Go.Proofs.YtfnnjkbhmoomjaaGreatDoor
open Go Go.Fen
set_option linter.unusedSimpArgs false
set_option linter.unusedVariables false
attribute [local irreducible] RunX WP ACall AnyP OpA ProtL
set_option maxRecDepth 8000
def CoI (c : Int) : AV := .int .i64 c
@[go_sem] theorem CoI.plainL (l : List Int) : plainL (l.map CoI) = true := plainL_map (fun _ => rfl) l
@[go_sem] theorem CoI.ltL (l : List Int) (n : Nat) : ltL n (l.map CoI) = true := ltL_iff.2 fun x hx => by obtain ⟨y, _, rfl⟩ := List.mem_map.1 hx; rfl
@[go_sem] theorem CoI.ok (l : List Int) : okEls 1 (l.map CoI) = true := by
  unfold okEls; rw [List.all_eq_true]; intro x hx; obtain ⟨y, _, rfl⟩ := List.mem_map.1 hx; rfl
end Go.Proofs.YtfnnjkbhmoomjaaGreatDoor
namespace Go.Proofs.YtfnnjkbhmoomjaaGreatDoor
open Go Go.Fen
set_option linter.unusedSimpArgs false
set_option linter.unusedVariables false
attribute [local irreducible] RunX WP ACall AnyP OpA ProtL
set_option maxRecDepth 8000
end Go.Proofs.YtfnnjkbhmoomjaaGreatDoor
namespace Go.Proofs.YtfnnjkbhmoomjaaGreatDoor
open Go Go.Fen
set_option linter.unusedSimpArgs false
set_option linter.unusedVariables false
attribute [local irreducible] RunX WP ACall AnyP OpA ProtL
set_option maxRecDepth 8000
end Go.Proofs.YtfnnjkbhmoomjaaGreatDoor
namespace Go.Proofs.YtfnnjkbhmoomjaaGreatDoor
open Go Go.Fen
set_option linter.unusedSimpArgs false
set_option linter.unusedVariables false
attribute [local irreducible] RunX WP ACall AnyP OpA ProtL
set_option maxRecDepth 8000
theorem oLimits (w0 : World) (S : List Blk) (R : AOut → List Blk → Prop) (h : R (.ret (.agg [.int .i64 0, .int .i64 255, .int .i64 16777215])) S) : ACall Tryz.prog w0 111 [] S R := by
  refine enter Tryz.func111 rfl (by decide +kernel) (by rw [Tryz.ntmps111]; simp) (by rw [Tryz.ntmps111]; decide) (fun hO => ?_); rw [Tryz.ntmps111]
  repeat' first | apply x_seq | apply x_skip | apply x_block | apply x_exit | apply x_ret | apply x_ops_nil | apply p_blk | apply p_exit_it | apply p_exit_hit | apply p_ret_it | apply p_ret_blk | apply p_panic_it | apply p_panic_blk | apply p_end | (apply p_exit_miss; (· rfl)) | (apply x_region; simp only [List.toList_toArray]) | (apply x_step0; (· rfl); (· simp only [go_sem, *]; try rfl); (· rfl); simp only [putA]) | (apply x_panic; (· simp only [go_sem, *]; try rfl); (· rfl); (· simp only [go_sem, *]; try rfl)) | (apply x_step; (iterate 2 (· simp only [go_sem, *]; try rfl)); (· rfl); simp only [putA]) | (apply x_unwanted; (· simp only [go_sem, *]; try rfl); (· rfl); simp only [putA]) | (apply x_condT; (· simp only [go_sem, *]; try rfl)) | (apply x_condF; (· simp only [go_sem, *]; try rfl)) | (apply x_guardS; (· rfl); (fail_if_success (focus (show _ = some true; (· simp only [go_sem, *]; try rfl)))); (· simp only [go_sem, *]; try rfl); all_goals (intro hb; try simp only [Bool.not_eq_true', Bool.not_eq_false'] at hb)) | (apply x_condS; (· simp only [go_sem, *]; try rfl); all_goals (intro hb; try simp only [Bool.not_eq_true', Bool.not_eq_false'] at hb)) | fail
  (apply f_ret; iterate 7 (· simp only [go_sem, *, Tryz.results111]; try rfl))
  exact h
def limO (k : Int) : Int := if k = 0 then 0 else if k = 1 then 255 else 16777215
def colB (k n : Int) : Bool := (decide (0 ≤ k) && decide (k ≤ 2)) && (decide (0 ≤ n) && decide (n ≤ limO k))
set_option maxHeartbeats 8000000 in
theorem oColCheck (w0 : World) (S : List Blk) (k n : Int) (R : AOut → List Blk → Prop) (h : R (.ret (.int .i64 (if colB k n then 0 else 130))) S) : ACall Tryz.prog w0 80 [.agg [.int .i64 k, .int .i64 n]] S R := by
  have hl := oLimits w0
  have H := Lib.hid h
  clear h
  have hk3 : k = 0 ∨ k = 1 ∨ k = 2 ∨ k < 0 ∨ (0 ≤ k ∧ 3 ≤ k) := by omega
  rcases hk3 with rfl | rfl | rfl | hk | ⟨hk, hk3⟩
  case inr.inr.inr.inl =>
    have d1 : decide (k < 0) = true := decide_eq_true hk
    have hh := H.out
    rw [if_neg (by unfold colB; simp; omega)] at hh
    clear hk H
    refine enter Tryz.func80 rfl (by decide +kernel) (by rw [Tryz.ntmps80]; simp) (by rw [Tryz.ntmps80]; decide) (fun hO => ?_); rw [Tryz.ntmps80]
    repeat' first | apply x_seq | apply x_skip | apply x_block | apply x_exit | apply x_ret | apply x_ops_nil | apply p_blk | apply p_exit_it | apply p_exit_hit | apply p_ret_it | apply p_ret_blk | apply p_panic_it | apply p_panic_blk | apply p_end | (apply p_exit_miss; (· rfl)) | (apply x_region; simp only [List.toList_toArray]) | (apply x_step0; (· rfl); (· simp only [go_sem, *]; try rfl); (· rfl); simp only [putA]) | (apply x_callA []; (· simp only [go_sem, *]; try rfl); (· rfl); (· simp only [go_sem, *]; try rfl); (· rfl); (iterate 2 (· simp only [go_sem, *]; try rfl)); (first | apply hl); simp only [afterCall, putA]) | (apply x_panic; (· simp only [go_sem, *]; try rfl); (· rfl); (· simp only [go_sem, *]; try rfl)) | (apply x_step; (iterate 2 (· simp only [go_sem, *]; try rfl)); (· rfl); simp only [putA]) | (apply x_unwanted; (· simp only [go_sem, *]; try rfl); (· rfl); simp only [putA]) | (apply x_condT; (· simp only [go_sem, *]; try rfl)) | (apply x_condF; (· simp only [go_sem, *]; try rfl)) | (apply x_guardS; (· rfl); (fail_if_success (focus (show _ = some true; (· simp only [go_sem, *]; try rfl)))); (· simp only [go_sem, *]; try rfl); all_goals (intro hb; try simp only [Bool.not_eq_true', Bool.not_eq_false'] at hb)) | (apply x_condS; (· simp only [go_sem, *]; try rfl); all_goals (intro hb; try simp only [Bool.not_eq_true', Bool.not_eq_false'] at hb)) | (apply d_draw; (· exact mixed); (· simp only [List.size_toArray, List.length_cons, List.length_nil, Nat.reduceAdd]; try rfl)) | (apply d_done; (· decide +kernel)) | (apply a_0; (repeat (apply a_s; (· decide +kernel))); apply a_take; (· decide +kernel); (· first | exact qds_FPost | exact qds_RPost | exact qds_YB | assumption); (· rfl); (iterate 3 (· simp only [go_sem, *]; try rfl)); (· rfl); (· simp only [go_sem, *]; try rfl); simp only [putA]) | (apply a_0; (repeat (apply a_s; (· decide +kernel))); apply a_unw; (· decide +kernel); (· first | exact qds_FPost | exact qds_RPost | exact qds_YB | assumption); (· rfl); (iterate 2 (· simp only [go_sem, *]; try rfl)); (· rfl); simp only [putA]) | (apply a_0; (repeat (apply a_o; (· decide +kernel))); apply a_one; (· decide +kernel)) | (apply o_step; (iterate 3 (· simp only [go_sem, *]; try rfl)); (· rfl); simp only [putA]) | (apply o_unw; (iterate 2 (· simp only [go_sem, *]; try rfl)); (· rfl); simp only [putA]) | apply pr_nil | apply pr_same | apply pr_go | apply pl_nil | apply pl_none | (apply pl_skip; (· decide +kernel)) | (apply pl_one; (· simp only [go_sem, *]; try rfl)) | (apply o_call []; (iterate 2 (· simp only [go_sem, *]; try rfl)); (· rfl); (· simp only [go_sem, *]; try rfl); (· rfl); (iterate 2 (· simp only [go_sem, *]; try rfl)); (first | apply hl); simp only [afterOp, putA]) | fail
    (apply f_ret; iterate 7 (· simp only [go_sem, *, Tryz.results80]; try rfl))
    exact hh
  case inr.inr.inr.inr =>
    have d1 : decide (k < 0) = false := decide_eq_false (by omega)
    have d2 : decide (3 ≤ k) = true := decide_eq_true hk3
    have hh := H.out
    rw [if_neg (by unfold colB; simp; omega)] at hh
    clear hk hk3 H
    refine enter Tryz.func80 rfl (by decide +kernel) (by rw [Tryz.ntmps80]; simp) (by rw [Tryz.ntmps80]; decide) (fun hO => ?_); rw [Tryz.ntmps80]
    repeat' first | apply x_seq | apply x_skip | apply x_block | apply x_exit | apply x_ret | apply x_ops_nil | apply p_blk | apply p_exit_it | apply p_exit_hit | apply p_ret_it | apply p_ret_blk | apply p_panic_it | apply p_panic_blk | apply p_end | (apply p_exit_miss; (· rfl)) | (apply x_region; simp only [List.toList_toArray]) | (apply x_step0; (· rfl); (· simp only [go_sem, *]; try rfl); (· rfl); simp only [putA]) | (apply x_callA []; (· simp only [go_sem, *]; try rfl); (· rfl); (· simp only [go_sem, *]; try rfl); (· rfl); (iterate 2 (· simp only [go_sem, *]; try rfl)); (first | apply hl); simp only [afterCall, putA]) | (apply x_panic; (· simp only [go_sem, *]; try rfl); (· rfl); (· simp only [go_sem, *]; try rfl)) | (apply x_step; (iterate 2 (· simp only [go_sem, *]; try rfl)); (· rfl); simp only [putA]) | (apply x_unwanted; (· simp only [go_sem, *]; try rfl); (· rfl); simp only [putA]) | (apply x_condT; (· simp only [go_sem, *]; try rfl)) | (apply x_condF; (· simp only [go_sem, *]; try rfl)) | (apply x_guardS; (· rfl); (fail_if_success (focus (show _ = some true; (· simp only [go_sem, *]; try rfl)))); (· simp only [go_sem, *]; try rfl); all_goals (intro hb; try simp only [Bool.not_eq_true', Bool.not_eq_false'] at hb)) | (apply x_condS; (· simp only [go_sem, *]; try rfl); all_goals (intro hb; try simp only [Bool.not_eq_true', Bool.not_eq_false'] at hb)) | (apply d_draw; (· exact mixed); (· simp only [List.size_toArray, List.length_cons, List.length_nil, Nat.reduceAdd]; try rfl)) | (apply d_done; (· decide +kernel)) | (apply a_0; (repeat (apply a_s; (· decide +kernel))); apply a_take; (· decide +kernel); (· first | exact qds_FPost | exact qds_RPost | exact qds_YB | assumption); (· rfl); (iterate 3 (· simp only [go_sem, *]; try rfl)); (· rfl); (· simp only [go_sem, *]; try rfl); simp only [putA]) | (apply a_0; (repeat (apply a_s; (· decide +kernel))); apply a_unw; (· decide +kernel); (· first | exact qds_FPost | exact qds_RPost | exact qds_YB | assumption); (· rfl); (iterate 2 (· simp only [go_sem, *]; try rfl)); (· rfl); simp only [putA]) | (apply a_0; (repeat (apply a_o; (· decide +kernel))); apply a_one; (· decide +kernel)) | (apply o_step; (iterate 3 (· simp only [go_sem, *]; try rfl)); (· rfl); simp only [putA]) | (apply o_unw; (iterate 2 (· simp only [go_sem, *]; try rfl)); (· rfl); simp only [putA]) | apply pr_nil | apply pr_same | apply pr_go | apply pl_nil | apply pl_none | (apply pl_skip; (· decide +kernel)) | (apply pl_one; (· simp only [go_sem, *]; try rfl)) | (apply o_call []; (iterate 2 (· simp only [go_sem, *]; try rfl)); (· rfl); (· simp only [go_sem, *]; try rfl); (· rfl); (iterate 2 (· simp only [go_sem, *]; try rfl)); (first | apply hl); simp only [afterOp, putA]) | fail
    (apply f_ret; iterate 7 (· simp only [go_sem, *, Tryz.results80]; try rfl))
    exact hh
  all_goals
    rcases (show n < 0 ∨ 0 ≤ n by omega) with hn | hn
    all_goals
      first
      | have d1 : decide (n < 0) = true := decide_eq_true hn
      | have d1 : decide (n < 0) = false := decide_eq_false (by omega)
      have Hn := Lib.hid hn
      clear hn
      refine enter Tryz.func80 rfl (by decide +kernel) (by rw [Tryz.ntmps80]; simp) (by rw [Tryz.ntmps80]; decide) (fun hO => ?_); rw [Tryz.ntmps80]
      repeat' first | apply x_seq | apply x_skip | apply x_block | apply x_exit | apply x_ret | apply x_ops_nil | apply p_blk | apply p_exit_it | apply p_exit_hit | apply p_ret_it | apply p_ret_blk | apply p_panic_it | apply p_panic_blk | apply p_end | (apply p_exit_miss; (· rfl)) | (apply x_region; simp only [List.toList_toArray]) | (apply x_step0; (· rfl); (· simp only [go_sem, *]; try rfl); (· rfl); simp only [putA]) | (apply x_callA []; (· simp only [go_sem, *]; try rfl); (· rfl); (· simp only [go_sem, *]; try rfl); (· rfl); (iterate 2 (· simp only [go_sem, *]; try rfl)); (first | apply hl); simp only [afterCall, putA]) | (apply x_panic; (· simp only [go_sem, *]; try rfl); (· rfl); (· simp only [go_sem, *]; try rfl)) | (apply x_step; (iterate 2 (· simp only [go_sem, *]; try rfl)); (· rfl); simp only [putA]) | (apply x_unwanted; (· simp only [go_sem, *]; try rfl); (· rfl); simp only [putA]) | (apply x_condT; (· simp only [go_sem, *]; try rfl)) | (apply x_condF; (· simp only [go_sem, *]; try rfl)) | (apply x_guardS; (· rfl); (fail_if_success (focus (show _ = some true; (· simp only [go_sem, *]; try rfl)))); (· simp only [go_sem, *]; try rfl); all_goals (intro hb; try simp only [Bool.not_eq_true', Bool.not_eq_false'] at hb)) | (apply x_condS; (· simp only [go_sem, *]; try rfl); all_goals (intro hb; try simp only [Bool.not_eq_true', Bool.not_eq_false'] at hb)) | (apply d_draw; (· exact mixed); (· simp only [List.size_toArray, List.length_cons, List.length_nil, Nat.reduceAdd]; try rfl)) | (apply d_done; (· decide +kernel)) | (apply a_0; (repeat (apply a_s; (· decide +kernel))); apply a_take; (· decide +kernel); (· first | exact qds_FPost | exact qds_RPost | exact qds_YB | assumption); (· rfl); (iterate 3 (· simp only [go_sem, *]; try rfl)); (· rfl); (· simp only [go_sem, *]; try rfl); simp only [putA]) | (apply a_0; (repeat (apply a_s; (· decide +kernel))); apply a_unw; (· decide +kernel); (· first | exact qds_FPost | exact qds_RPost | exact qds_YB | assumption); (· rfl); (iterate 2 (· simp only [go_sem, *]; try rfl)); (· rfl); simp only [putA]) | (apply a_0; (repeat (apply a_o; (· decide +kernel))); apply a_one; (· decide +kernel)) | (apply o_step; (iterate 3 (· simp only [go_sem, *]; try rfl)); (· rfl); simp only [putA]) | (apply o_unw; (iterate 2 (· simp only [go_sem, *]; try rfl)); (· rfl); simp only [putA]) | apply pr_nil | apply pr_same | apply pr_go | apply pl_nil | apply pl_none | (apply pl_skip; (· decide +kernel)) | (apply pl_one; (· simp only [go_sem, *]; try rfl)) | (apply o_call []; (iterate 2 (· simp only [go_sem, *]; try rfl)); (· rfl); (· simp only [go_sem, *]; try rfl); (· rfl); (iterate 2 (· simp only [go_sem, *]; try rfl)); (first | apply hl); simp only [afterOp, putA]) | fail
      all_goals (apply f_ret; iterate 7 (· simp only [go_sem, *, Tryz.results80]; try rfl))
      all_goals
        refine cast (congrArg (fun v => R (.ret (.int .i64 v)) S) ?_) H.out
        have hn := Hn.out
        simp only [decide_eq_true_eq, decide_eq_false_iff_not] at *
        first
        | (rw [if_pos (by simp [colB, limO]; omega)])
        | (rw [if_neg (by simp [colB, limO]; omega)])
end Go.Proofs.YtfnnjkbhmoomjaaGreatDoor
namespace Go.Proofs.YtfnnjkbhmoomjaaGreatDoor
open Go Go.Fen
set_option linter.unusedSimpArgs false
set_option linter.unusedVariables false
attribute [local irreducible] RunX WP ACall AnyP OpA ProtL
set_option maxRecDepth 8000
theorem oSize (w0 : World) (S : List Blk) (n : Nat) (hn : n ≤ 100000) (R : AOut → List Blk → Prop) (h : R (.ret (.int .i64 (((n + 2) / 3 * 4 : Nat) : Int))) S) : ACall Tryz.prog w0 87 [.int .i64 n] S R := by
  have m1 : (if (1099511627776 : Int) < (n : Int) then (1099511627776 : Int) else (n : Int)) = (n : Int) := by rw [if_neg (by omega)]
  have m2 : (if (n : Int) > 0 then (n : Int) else 0) = (n : Int) := by split <;> omega
  have k1 : IntKind.i64.wrap ((n : Int) + 2) = ((n + 2 : Nat) : Int) := by rw [IntWalk.i64_in _ (by omega)]; omega
  have k2 : IntKind.i64.wrap (((n + 2 : Nat) : Int).tdiv 3) = (((n + 2) / 3 : Nat) : Int) := tdK (n + 2) 3 (by omega)
  have k3 : IntKind.i64.wrap ((((n + 2) / 3 : Nat) : Int) * 4) = (((n + 2) / 3 * 4 : Nat) : Int) := by rw [IntWalk.i64_in _ (by omega)]; omega
  clear hn
  refine enter Tryz.func87 rfl (by decide +kernel) (by rw [Tryz.ntmps87]; simp) (by rw [Tryz.ntmps87]; decide) (fun hO => ?_); rw [Tryz.ntmps87]
  repeat' first | apply x_seq | apply x_skip | apply x_block | apply x_exit | apply x_ret | apply x_ops_nil | apply p_blk | apply p_exit_it | apply p_exit_hit | apply p_ret_it | apply p_ret_blk | apply p_panic_it | apply p_panic_blk | apply p_end | (apply p_exit_miss; (· rfl)) | (apply x_region; simp only [List.toList_toArray]) | (apply x_step0; (· rfl); (· simp only [go_sem, *]; try rfl); (· rfl); simp only [putA]) | (apply x_panic; (· simp only [go_sem, *]; try rfl); (· rfl); (· simp only [go_sem, *]; try rfl)) | (apply x_step; (iterate 2 (· simp only [go_sem, *]; try rfl)); (· rfl); simp only [putA]) | (apply x_unwanted; (· simp only [go_sem, *]; try rfl); (· rfl); simp only [putA]) | (apply x_condT; (· simp only [go_sem, *]; try rfl)) | (apply x_condF; (· simp only [go_sem, *]; try rfl)) | (apply x_guardS; (· rfl); (fail_if_success (focus (show _ = some true; (· simp only [go_sem, *]; try rfl)))); (· simp only [go_sem, *]; try rfl); all_goals (intro hb; try simp only [Bool.not_eq_true', Bool.not_eq_false'] at hb)) | (apply x_condS; (· simp only [go_sem, *]; try rfl); all_goals (intro hb; try simp only [Bool.not_eq_true', Bool.not_eq_false'] at hb)) | fail
  (apply f_ret; iterate 7 (· simp only [go_sem, *, Tryz.results87]; try rfl))
  exact h
theorem oRgb (w0 : World) (S : List Blk) (n : Int) (hn : colB 2 n = true) (R : AOut → List Blk → Prop) (h : R (.ret (.tup [.int .i64 n, .bool true])) S) : ACall Tryz.prog w0 81 [.agg [.int .i64 2, .int .i64 n]] S R := by
  have hc := fun S' => oColCheck w0 S' 2 n
  rw [hn, if_pos rfl] at hc
  clear hn
  refine enter Tryz.func81 rfl (by decide +kernel) (by rw [Tryz.ntmps81]; simp) (by rw [Tryz.ntmps81]; decide) (fun hO => ?_); rw [Tryz.ntmps81]
  repeat' first | apply x_seq | apply x_skip | apply x_block | apply x_exit | apply x_ret | apply x_ops_nil | apply p_blk | apply p_exit_it | apply p_exit_hit | apply p_ret_it | apply p_ret_blk | apply p_panic_it | apply p_panic_blk | apply p_end | (apply p_exit_miss; (· rfl)) | (apply x_region; simp only [List.toList_toArray]) | (apply x_step0; (· rfl); (· simp only [go_sem, *]; try rfl); (· rfl); simp only [putA]) | (apply x_callA []; (· simp only [go_sem, *]; try rfl); (· rfl); (· simp only [go_sem, *]; try rfl); (· rfl); (iterate 2 (· simp only [go_sem, *]; try rfl)); (first | apply hc); simp only [afterCall, putA]) | (apply x_panic; (· simp only [go_sem, *]; try rfl); (· rfl); (· simp only [go_sem, *]; try rfl)) | (apply x_step; (iterate 2 (· simp only [go_sem, *]; try rfl)); (· rfl); simp only [putA]) | (apply x_unwanted; (· simp only [go_sem, *]; try rfl); (· rfl); simp only [putA]) | (apply x_condT; (· simp only [go_sem, *]; try rfl)) | (apply x_condF; (· simp only [go_sem, *]; try rfl)) | (apply x_guardS; (· rfl); (fail_if_success (focus (show _ = some true; (· simp only [go_sem, *]; try rfl)))); (· simp only [go_sem, *]; try rfl); all_goals (intro hb; try simp only [Bool.not_eq_true', Bool.not_eq_false'] at hb)) | (apply x_condS; (· simp only [go_sem, *]; try rfl); all_goals (intro hb; try simp only [Bool.not_eq_true', Bool.not_eq_false'] at hb)) | fail
  (apply f_ret; iterate 7 (· simp only [go_sem, *, Tryz.results81]; try rfl))
  exact h
end Go.Proofs.YtfnnjkbhmoomjaaGreatDoor
