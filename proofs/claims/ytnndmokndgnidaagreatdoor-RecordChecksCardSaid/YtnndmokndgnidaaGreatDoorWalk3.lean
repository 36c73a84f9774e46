/- YtnndmokndgnidaaGreatDoorWalk3. Texts of the proof of a law about recordings: a layer of abstract values above the worlds, the types, the walks of the functions that the law reaches, the law and its card. Own work of an AI agent. -/
import Derived.Test.YtnndmokndgnidaaGreatDoorWalk2
import Derived.Test.YtnndmokndgnidaaGreatDoorCore1
import Derived.Shelf.Strconv.ToError
import Derived.Test.YtnndmokndgnidaaGreatDoorShelf
import Derived.Test.YtnndmokndgnidaaGreatDoorWalk0
import Derived.Test.YtnndmokndgnidaaGreatDoorCards
import Derived.Test.YtnndmokndgnidaaGreatDoorTie
import Derived.ProofKit
import Derived.OpenShut
import Derived.LaidMore
import Derived.Lay
import Derived.SevenTiedAt
import Derived.Stop.Joined
set_option linter.all false
set_option linter.unusedVariables false
set_option linter.unusedSimpArgs false
namespace Go.Proofs.YtnndmokndgnidaaGreatDoor
open Go Go.Fen
set_option linter.unusedSimpArgs false
set_option linter.unusedVariables false
attribute [local irreducible] RunX WP ACall AnyP OpA ProtL
set_option maxRecDepth 8000
def parseS (s : List UInt8) : Rec × Int :=
  if 1048576 < s.length then (zeroR, 3) else match recP s with
  | none => (zeroR, 6)
  | some r => if checkB r then (r, 0) else (zeroR, 520)
set_option maxHeartbeats 2000000 in
theorem parse (w0 : World) (hPU : PU16 w0) (S : List Blk) (s : List UInt8) (hm : ∀ r, recP s = some r → (r.items.length : Int) < 9223372036854775807) (R : AOut → List Blk → Prop) (h : R (.ret (resAV (parseS s))) S) :
    ACall Tryz.prog w0 27 [.str s] S R := by
  unfold parseS at h
  by_cases hl : 1048576 < s.length
  · rw [if_pos hl] at h
    have d1 : decide ((1048576 : Int) < (s.length : Int)) = true := by simp; omega
    clear hl hm hPU
    refine enter Tryz.func27 rfl (by decide +kernel) (by rw [Tryz.ntmps27]; simp) (by rw [Tryz.ntmps27]; decide) (fun hO => ?_); rw [Tryz.ntmps27]
    repeat' first
      | apply x_seq | apply x_skip | apply x_block | apply x_exit | apply x_ret | apply x_ops_nil | apply p_blk | apply p_exit_it | apply p_exit_hit | apply p_ret_it | apply p_ret_blk | apply p_panic_it | apply p_panic_blk | apply p_end
      | (apply p_exit_miss; (focus rfl))
      | (apply x_region; simp only [List.toList_toArray])
      | (apply x_step0; (focus rfl); (focus (simp only [go_sem, *]; (try rfl); done)); (focus rfl); simp only [putA])
      | (apply x_panic; (focus (simp only [go_sem, *]; (try rfl); done)); (focus rfl); (focus (simp only [go_sem, *]; (try rfl); done)))
      | (apply x_step; (iterate 2 (focus (simp only [go_sem, *]; (try rfl); done))); (focus rfl); simp only [putA])
      | (apply x_unwanted; (focus (simp only [go_sem, *]; (try rfl); done)); (focus rfl); simp only [putA])
      | (apply x_condT; (focus (simp only [go_sem, *]; (try rfl); done)))
      | (apply x_condF; (focus (simp only [go_sem, *]; (try rfl); done)))
      | (apply x_guardS; (focus rfl); (fail_if_success (focus (show _ = some true; (focus (simp only [go_sem, *]; (try rfl); done))))); (focus (simp only [go_sem, *]; (try rfl); done)); all_goals (intro hb; try simp only [Bool.not_eq_true', Bool.not_eq_false'] at hb))
      | (apply x_condS; (focus (simp only [go_sem, *]; (try rfl); done)); all_goals (intro hb; try simp only [Bool.not_eq_true', Bool.not_eq_false'] at hb))
    (apply f_ret; iterate 7 (focus (simp only [go_sem, *, Tryz.results27]; (try rfl); done)))
    exact h
  rw [if_neg hl] at h
  have d1 : decide ((1048576 : Int) < (s.length : Int)) = false := by simp; omega
  have hrec := fun S' a ha R hR hF => recordingT w0 hPU S' a s (by omega) ha R hR hF
  cases hp : recP s with
  | none =>
    rw [hp] at h
    have t1 : ∀ S' a, S'[a]? = some (.cells [.str s]) → ∀ R : AOut → List Blk → Prop, (∀ r, R (.ret (.tup [zeroR.av, .bool false])) (S'.set a (.cells [.str r]))) → ACall Tryz.prog w0 55 [.own a 0] S' R := by
      intro S' a ha R hF
      exact hrec S' a ha R (by intro x hx; rw [hp] at hx; cases hx) (fun _ => hF)
    clear hrec hp hl hm hPU
    refine enter Tryz.func27 rfl (by decide +kernel) (by rw [Tryz.ntmps27]; simp) (by rw [Tryz.ntmps27]; decide) (fun hO => ?_); rw [Tryz.ntmps27]
    repeat' first
      | apply x_seq | apply x_skip | apply x_block | apply x_exit | apply x_ret | apply x_ops_nil | apply p_blk | apply p_exit_it | apply p_exit_hit | apply p_ret_it | apply p_ret_blk | apply p_panic_it | apply p_panic_blk | apply p_end
      | (apply p_exit_miss; (focus rfl))
      | (apply x_region; simp only [List.toList_toArray])
      | (apply x_step0; (focus rfl); (focus (simp only [go_sem, *]; (try rfl); done)); (focus rfl); simp only [putA])
      | (apply x_callA []; (focus (simp only [go_sem, *]; (try rfl); done)); (focus rfl); (focus (simp only [go_sem, *]; (try rfl); done)); (focus rfl); (iterate 2 (focus (simp only [go_sem, *]; (try rfl); done))); (first | (apply t1; (focus (simp only [go_sem, *]; (try rfl); done)))); simp only [afterCall, putA])
      | (apply x_panic; (focus (simp only [go_sem, *]; (try rfl); done)); (focus rfl); (focus (simp only [go_sem, *]; (try rfl); done)))
      | (apply x_step; (iterate 2 (focus (simp only [go_sem, *]; (try rfl); done))); (focus rfl); simp only [putA])
      | (apply x_unwanted; (focus (simp only [go_sem, *]; (try rfl); done)); (focus rfl); simp only [putA])
      | (apply x_condT; (focus (simp only [go_sem, *]; (try rfl); done)))
      | (apply x_condF; (focus (simp only [go_sem, *]; (try rfl); done)))
      | (apply x_guardS; (focus rfl); (fail_if_success (focus (show _ = some true; (focus (simp only [go_sem, *]; (try rfl); done))))); (focus (simp only [go_sem, *]; (try rfl); done)); all_goals (intro hb; try simp only [Bool.not_eq_true', Bool.not_eq_false'] at hb))
      | (apply x_condS; (focus (simp only [go_sem, *]; (try rfl); done)); all_goals (intro hb; try simp only [Bool.not_eq_true', Bool.not_eq_false'] at hb))
    intro rr
    repeat' first
      | apply x_seq | apply x_skip | apply x_block | apply x_exit | apply x_ret | apply x_ops_nil | apply p_blk | apply p_exit_it | apply p_exit_hit | apply p_ret_it | apply p_ret_blk | apply p_panic_it | apply p_panic_blk | apply p_end
      | (apply p_exit_miss; (focus rfl))
      | (apply x_region; simp only [List.toList_toArray])
      | (apply x_step0; (focus rfl); (focus (simp only [go_sem, *, zeroR, Rec.av]; (try rfl); done)); (focus rfl); simp only [putA])
      | (apply x_panic; (focus (simp only [go_sem, *, zeroR, Rec.av]; (try rfl); done)); (focus rfl); (focus (simp only [go_sem, *, zeroR, Rec.av]; (try rfl); done)))
      | (apply x_step; (iterate 2 (focus (simp only [go_sem, *, zeroR, Rec.av]; (try rfl); done))); (focus rfl); simp only [putA])
      | (apply x_unwanted; (focus (simp only [go_sem, *, zeroR, Rec.av]; (try rfl); done)); (focus rfl); simp only [putA])
      | (apply x_condT; (focus (simp only [go_sem, *, zeroR, Rec.av]; (try rfl); done)))
      | (apply x_condF; (focus (simp only [go_sem, *, zeroR, Rec.av]; (try rfl); done)))
      | (apply x_guardS; (focus rfl); (fail_if_success (focus (show _ = some true; (focus (simp only [go_sem, *, zeroR, Rec.av]; (try rfl); done))))); (focus (simp only [go_sem, *, zeroR, Rec.av]; (try rfl); done)); all_goals (intro hb; try simp only [Bool.not_eq_true', Bool.not_eq_false'] at hb))
      | (apply x_condS; (focus (simp only [go_sem, *, zeroR, Rec.av]; (try rfl); done)); all_goals (intro hb; try simp only [Bool.not_eq_true', Bool.not_eq_false'] at hb))
    (apply f_ret; iterate 7 (focus (simp only [go_sem, *, Tryz.results27]; (try rfl); done)))
    exact h
  | some r =>
    rw [hp] at h
    simp only at h
    have hck := fun S' => check w0 S' r (hm r hp)
    have t1 : ∀ S' a, S'[a]? = some (.cells [.str s]) → ∀ R : AOut → List Blk → Prop, (∀ q, R (.ret (.tup [r.av, .bool true])) (S'.set a (.cells [.str q]))) → ACall Tryz.prog w0 55 [.own a 0] S' R := by
      intro S' a ha R hF
      exact hrec S' a ha R (by intro x hx; rw [hp] at hx; cases hx; exact hF) (by intro hn; rw [hp] at hn; cases hn)
    clear hrec hp hl hm hPU
    cases hc : checkB r with
    | true =>
      simp only [hc, if_true] at h hck
      unfold Rec.av at t1 hck
      refine enter Tryz.func27 rfl (by decide +kernel) (by rw [Tryz.ntmps27]; simp) (by rw [Tryz.ntmps27]; decide) (fun hO => ?_); rw [Tryz.ntmps27]
      repeat' first
        | apply x_seq | apply x_skip | apply x_block | apply x_exit | apply x_ret | apply x_ops_nil | apply p_blk | apply p_exit_it | apply p_exit_hit | apply p_ret_it | apply p_ret_blk | apply p_panic_it | apply p_panic_blk | apply p_end
        | (apply p_exit_miss; (focus rfl))
        | (apply x_region; simp only [List.toList_toArray])
        | (apply x_step0; (focus rfl); (focus (simp only [go_sem, *]; (try rfl); done)); (focus rfl); simp only [putA])
        | (apply x_callA []; (focus (simp only [go_sem, *]; (try rfl); done)); (focus rfl); (focus (simp only [go_sem, *]; (try rfl); done)); (focus rfl); (iterate 2 (focus (simp only [go_sem, *]; (try rfl); done))); (first | (apply t1; (focus (simp only [go_sem, *]; (try rfl); done)))); simp only [afterCall, putA])
        | (apply x_panic; (focus (simp only [go_sem, *]; (try rfl); done)); (focus rfl); (focus (simp only [go_sem, *]; (try rfl); done)))
        | (apply x_step; (iterate 2 (focus (simp only [go_sem, *]; (try rfl); done))); (focus rfl); simp only [putA])
        | (apply x_unwanted; (focus (simp only [go_sem, *]; (try rfl); done)); (focus rfl); simp only [putA])
        | (apply x_condT; (focus (simp only [go_sem, *]; (try rfl); done)))
        | (apply x_condF; (focus (simp only [go_sem, *]; (try rfl); done)))
        | (apply x_guardS; (focus rfl); (fail_if_success (focus (show _ = some true; (focus (simp only [go_sem, *]; (try rfl); done))))); (focus (simp only [go_sem, *]; (try rfl); done)); all_goals (intro hb; try simp only [Bool.not_eq_true', Bool.not_eq_false'] at hb))
        | (apply x_condS; (focus (simp only [go_sem, *]; (try rfl); done)); all_goals (intro hb; try simp only [Bool.not_eq_true', Bool.not_eq_false'] at hb))
      intro rr
      repeat' first
        | apply x_seq | apply x_skip | apply x_block | apply x_exit | apply x_ret | apply x_ops_nil | apply p_blk | apply p_exit_it | apply p_exit_hit | apply p_ret_it | apply p_ret_blk | apply p_panic_it | apply p_panic_blk | apply p_end
        | (apply p_exit_miss; (focus rfl))
        | (apply x_region; simp only [List.toList_toArray])
        | (apply x_step0; (focus rfl); (focus (simp only [go_sem, *]; (try rfl); done)); (focus rfl); simp only [putA])
        | (apply x_callA []; (focus (simp only [go_sem, *]; (try rfl); done)); (focus rfl); (focus (simp only [go_sem, *]; (try rfl); done)); (focus rfl); (iterate 2 (focus (simp only [go_sem, *]; (try rfl); done))); (first | (apply hck)); simp only [afterCall, putA])
        | (apply x_panic; (focus (simp only [go_sem, *]; (try rfl); done)); (focus rfl); (focus (simp only [go_sem, *]; (try rfl); done)))
        | (apply x_step; (iterate 2 (focus (simp only [go_sem, *]; (try rfl); done))); (focus rfl); simp only [putA])
        | (apply x_unwanted; (focus (simp only [go_sem, *]; (try rfl); done)); (focus rfl); simp only [putA])
        | (apply x_condT; (focus (simp only [go_sem, *]; (try rfl); done)))
        | (apply x_condF; (focus (simp only [go_sem, *]; (try rfl); done)))
        | (apply x_guardS; (focus rfl); (fail_if_success (focus (show _ = some true; (focus (simp only [go_sem, *]; (try rfl); done))))); (focus (simp only [go_sem, *]; (try rfl); done)); all_goals (intro hb; try simp only [Bool.not_eq_true', Bool.not_eq_false'] at hb))
        | (apply x_condS; (focus (simp only [go_sem, *]; (try rfl); done)); all_goals (intro hb; try simp only [Bool.not_eq_true', Bool.not_eq_false'] at hb))
      (apply f_ret; iterate 7 (focus (simp only [go_sem, *, Tryz.results27]; (try rfl); done)))
      exact h
    | false =>
      simp only [hc, Bool.false_eq_true, if_false] at h hck
      unfold Rec.av at t1 hck
      refine enter Tryz.func27 rfl (by decide +kernel) (by rw [Tryz.ntmps27]; simp) (by rw [Tryz.ntmps27]; decide) (fun hO => ?_); rw [Tryz.ntmps27]
      repeat' first
        | apply x_seq | apply x_skip | apply x_block | apply x_exit | apply x_ret | apply x_ops_nil | apply p_blk | apply p_exit_it | apply p_exit_hit | apply p_ret_it | apply p_ret_blk | apply p_panic_it | apply p_panic_blk | apply p_end
        | (apply p_exit_miss; (focus rfl))
        | (apply x_region; simp only [List.toList_toArray])
        | (apply x_step0; (focus rfl); (focus (simp only [go_sem, *]; (try rfl); done)); (focus rfl); simp only [putA])
        | (apply x_callA []; (focus (simp only [go_sem, *]; (try rfl); done)); (focus rfl); (focus (simp only [go_sem, *]; (try rfl); done)); (focus rfl); (iterate 2 (focus (simp only [go_sem, *]; (try rfl); done))); (first | (apply t1; (focus (simp only [go_sem, *]; (try rfl); done)))); simp only [afterCall, putA])
        | (apply x_panic; (focus (simp only [go_sem, *]; (try rfl); done)); (focus rfl); (focus (simp only [go_sem, *]; (try rfl); done)))
        | (apply x_step; (iterate 2 (focus (simp only [go_sem, *]; (try rfl); done))); (focus rfl); simp only [putA])
        | (apply x_unwanted; (focus (simp only [go_sem, *]; (try rfl); done)); (focus rfl); simp only [putA])
        | (apply x_condT; (focus (simp only [go_sem, *]; (try rfl); done)))
        | (apply x_condF; (focus (simp only [go_sem, *]; (try rfl); done)))
        | (apply x_guardS; (focus rfl); (fail_if_success (focus (show _ = some true; (focus (simp only [go_sem, *]; (try rfl); done))))); (focus (simp only [go_sem, *]; (try rfl); done)); all_goals (intro hb; try simp only [Bool.not_eq_true', Bool.not_eq_false'] at hb))
        | (apply x_condS; (focus (simp only [go_sem, *]; (try rfl); done)); all_goals (intro hb; try simp only [Bool.not_eq_true', Bool.not_eq_false'] at hb))
      intro rr
      repeat' first
        | apply x_seq | apply x_skip | apply x_block | apply x_exit | apply x_ret | apply x_ops_nil | apply p_blk | apply p_exit_it | apply p_exit_hit | apply p_ret_it | apply p_ret_blk | apply p_panic_it | apply p_panic_blk | apply p_end
        | (apply p_exit_miss; (focus rfl))
        | (apply x_region; simp only [List.toList_toArray])
        | (apply x_step0; (focus rfl); (focus (simp only [go_sem, *]; (try rfl); done)); (focus rfl); simp only [putA])
        | (apply x_callA []; (focus (simp only [go_sem, *]; (try rfl); done)); (focus rfl); (focus (simp only [go_sem, *]; (try rfl); done)); (focus rfl); (iterate 2 (focus (simp only [go_sem, *]; (try rfl); done))); (first | (apply hck)); simp only [afterCall, putA])
        | (apply x_panic; (focus (simp only [go_sem, *]; (try rfl); done)); (focus rfl); (focus (simp only [go_sem, *]; (try rfl); done)))
        | (apply x_step; (iterate 2 (focus (simp only [go_sem, *]; (try rfl); done))); (focus rfl); simp only [putA])
        | (apply x_unwanted; (focus (simp only [go_sem, *]; (try rfl); done)); (focus rfl); simp only [putA])
        | (apply x_condT; (focus (simp only [go_sem, *]; (try rfl); done)))
        | (apply x_condF; (focus (simp only [go_sem, *]; (try rfl); done)))
        | (apply x_guardS; (focus rfl); (fail_if_success (focus (show _ = some true; (focus (simp only [go_sem, *]; (try rfl); done))))); (focus (simp only [go_sem, *]; (try rfl); done)); all_goals (intro hb; try simp only [Bool.not_eq_true', Bool.not_eq_false'] at hb))
        | (apply x_condS; (focus (simp only [go_sem, *]; (try rfl); done)); all_goals (intro hb; try simp only [Bool.not_eq_true', Bool.not_eq_false'] at hb))
      (apply f_ret; iterate 7 (focus (simp only [go_sem, *, Tryz.results27]; (try rfl); done)))
      exact h
end Go.Proofs.YtnndmokndgnidaaGreatDoor
namespace Go.Proofs.YtnndmokndgnidaaGreatDoor
open Go Go.Fen
set_option linter.unusedSimpArgs false
set_option linter.unusedVariables false
attribute [local irreducible] RunX WP ACall AnyP OpA ProtL
set_option maxRecDepth 8000
set_option maxHeartbeats 1000000 in
theorem uptoLaw (w0 : World) (S : List Blk) (r : Rec) (hm : (r.items.length : Int) < 9223372036854775807) (t k : Int) (n : Nat) (hc : checkB r = true) (hn : UpTo r.items t n) (R : AOut → List Blk → Prop) (h : R (.ret (.bool ((n : Int) == k))) S) :
    ACall Tryz.prog w0 48 [r.av, .int .i64 t, .int .i64 k] S R := by
  have hu := fun S' => uptoR w0 S' r hm t n hc hn
  clear hm hc hn
  unfold Rec.av at hu ⊢
  cases hk : ((n : Int) == k) with
  | true =>
    rw [hk] at h
    refine enter Tryz.func48 rfl (by decide +kernel) (by rw [Tryz.ntmps48]; simp) (by rw [Tryz.ntmps48]; decide) (fun hO => ?_); rw [Tryz.ntmps48]
    repeat' first
      | apply x_seq | apply x_skip | apply x_block | apply x_exit | apply x_ret | apply x_ops_nil | apply p_blk | apply p_exit_it | apply p_exit_hit | apply p_ret_it | apply p_ret_blk | apply p_panic_it | apply p_panic_blk | apply p_end
      | (apply p_exit_miss; (focus rfl))
      | (apply x_region; simp only [List.toList_toArray])
      | (apply x_step0; (focus rfl); (focus (simp only [go_sem, *]; (try rfl); done)); (focus rfl); simp only [putA])
      | (apply x_callA []; (focus (simp only [go_sem, *]; (try rfl); done)); (focus rfl); (focus (simp only [go_sem, *]; (try rfl); done)); (focus rfl); (iterate 2 (focus (simp only [go_sem, *]; (try rfl); done))); (first | (apply hu)); simp only [afterCall, putA])
      | (apply x_panic; (focus (simp only [go_sem, *]; (try rfl); done)); (focus rfl); (focus (simp only [go_sem, *]; (try rfl); done)))
      | (apply x_step; (iterate 2 (focus (simp only [go_sem, *]; (try rfl); done))); (focus rfl); simp only [putA])
      | (apply x_unwanted; (focus (simp only [go_sem, *]; (try rfl); done)); (focus rfl); simp only [putA])
      | (apply x_condT; (focus (simp only [go_sem, *]; (try rfl); done)))
      | (apply x_condF; (focus (simp only [go_sem, *]; (try rfl); done)))
      | (apply x_guardS; (focus rfl); (fail_if_success (focus (show _ = some true; (focus (simp only [go_sem, *]; (try rfl); done))))); (focus (simp only [go_sem, *]; (try rfl); done)); all_goals (intro hb; try simp only [Bool.not_eq_true', Bool.not_eq_false'] at hb))
      | (apply x_condS; (focus (simp only [go_sem, *]; (try rfl); done)); all_goals (intro hb; try simp only [Bool.not_eq_true', Bool.not_eq_false'] at hb))
    (apply f_ret; iterate 7 (focus (simp only [go_sem, *, Tryz.results48]; (try rfl); done)))
    exact h
  | false =>
    rw [hk] at h
    refine enter Tryz.func48 rfl (by decide +kernel) (by rw [Tryz.ntmps48]; simp) (by rw [Tryz.ntmps48]; decide) (fun hO => ?_); rw [Tryz.ntmps48]
    repeat' first
      | apply x_seq | apply x_skip | apply x_block | apply x_exit | apply x_ret | apply x_ops_nil | apply p_blk | apply p_exit_it | apply p_exit_hit | apply p_ret_it | apply p_ret_blk | apply p_panic_it | apply p_panic_blk | apply p_end
      | (apply p_exit_miss; (focus rfl))
      | (apply x_region; simp only [List.toList_toArray])
      | (apply x_step0; (focus rfl); (focus (simp only [go_sem, *]; (try rfl); done)); (focus rfl); simp only [putA])
      | (apply x_callA []; (focus (simp only [go_sem, *]; (try rfl); done)); (focus rfl); (focus (simp only [go_sem, *]; (try rfl); done)); (focus rfl); (iterate 2 (focus (simp only [go_sem, *]; (try rfl); done))); (first | (apply hu)); simp only [afterCall, putA])
      | (apply x_panic; (focus (simp only [go_sem, *]; (try rfl); done)); (focus rfl); (focus (simp only [go_sem, *]; (try rfl); done)))
      | (apply x_step; (iterate 2 (focus (simp only [go_sem, *]; (try rfl); done))); (focus rfl); simp only [putA])
      | (apply x_unwanted; (focus (simp only [go_sem, *]; (try rfl); done)); (focus rfl); simp only [putA])
      | (apply x_condT; (focus (simp only [go_sem, *]; (try rfl); done)))
      | (apply x_condF; (focus (simp only [go_sem, *]; (try rfl); done)))
      | (apply x_guardS; (focus rfl); (fail_if_success (focus (show _ = some true; (focus (simp only [go_sem, *]; (try rfl); done))))); (focus (simp only [go_sem, *]; (try rfl); done)); all_goals (intro hb; try simp only [Bool.not_eq_true', Bool.not_eq_false'] at hb))
      | (apply x_condS; (focus (simp only [go_sem, *]; (try rfl); done)); all_goals (intro hb; try simp only [Bool.not_eq_true', Bool.not_eq_false'] at hb))
    (apply f_ret; iterate 7 (focus (simp only [go_sem, *, Tryz.results48]; (try rfl); done)))
    exact h
end Go.Proofs.YtnndmokndgnidaaGreatDoor
namespace Go.Proofs.YtnndmokndgnidaaGreatDoor
open Go Go.Fen
set_option linter.unusedSimpArgs false
set_option linter.unusedVariables false
attribute [local irreducible] RunX WP ACall AnyP OpA ProtL
set_option maxRecDepth 8000
theorem chap_check : checkB chapR = true := by decide +kernel
theorem chap_print : printS chapR = chapS := by decide +kernel
theorem chap_parse : parseS chapS = (chapR, 0) := by decide +kernel
theorem chap_cut1 : cutS chapR 120 200 = (⟨10, 3, [⟨30, 3, 20, 4, []⟩, ⟨0, 4, 0, 0, [109]⟩]⟩, 0) := by decide +kernel
theorem chap_cut2 : cutS chapR 200 300 = (⟨20, 4, []⟩, 0) := by decide +kernel
theorem chap_cut3 : cutS chapR 0 150 = (⟨10, 3, [⟨100, 1, 0, 0, [97, 10]⟩]⟩, 0) := by decide +kernel
theorem chap_long : tmz chapR.items chapR.items.length = 150 := by decide +kernel
theorem upto_mk {l : List It} {t : Int} {n : Nat} (h : ((List.range n).all fun j => decide (tmz l (j + 1) ≤ t)) = true) (h2 : n ≤ l.length) (h3 : n < l.length → t < tmz l (n + 1)) : UpTo l t n := by
  refine ⟨fun j hj => ?_, h2, h3⟩
  have := List.all_eq_true.1 h j (List.mem_range.2 hj)
  simpa using this
theorem chap_up1 : UpTo chapR.items 100 1 := upto_mk (by decide +kernel) (by decide +kernel) (by decide +kernel)
theorem chap_up2 : UpTo chapR.items 149 1 := upto_mk (by decide +kernel) (by decide +kernel) (by decide +kernel)
theorem chap_up3 : UpTo chapR.items 150 3 := upto_mk (by decide +kernel) (by decide +kernel) (by decide +kernel)
theorem chap_up4 : UpTo chapR.items (-1) 0 := upto_mk (by decide +kernel) (by decide +kernel) (by decide +kernel)
end Go.Proofs.YtnndmokndgnidaaGreatDoor
namespace Go.Proofs.YtnndmokndgnidaaGreatDoor
open Go Go.Fen
set_option linter.unusedSimpArgs false
set_option linter.unusedVariables false
attribute [local irreducible] RunX WP ACall AnyP OpA ProtL
set_option maxRecDepth 8000
theorem or32 (c : UInt8) : IntKind.u8.wrap (↑(BitVec.ofInt IntKind.u8.bits (c.toNat : Int) ||| BitVec.ofInt IntKind.u8.bits 32).toNat) = (((c ||| 32).toNat : Nat) : Int) := by
  have : ∀ n : Nat, n < 256 → IntKind.u8.wrap (↑(BitVec.ofInt IntKind.u8.bits (n : Int) ||| BitVec.ofInt IntKind.u8.bits 32).toNat) = (((UInt8.ofNat n ||| 32).toNat : Nat) : Int) := by decide +kernel
  have h := this c.toNat c.toNat_lt
  rwa [UInt8.ofNat_toNat] at h
set_option maxHeartbeats 400000 in
theorem lower (w0 : World) (S : List Blk) (c : UInt8) (R : AOut → List Blk → Prop) (h : R (.ret (.int .u8 ((c ||| 32).toNat : Nat))) S) : ACall Tryz.prog w0 110 [.int .u8 c.toNat] S R := by
  have g := or32 c
  simp only [IntKind.bits] at g
  refine enter Tryz.func110 rfl (by decide +kernel) (by rw [Tryz.ntmps110]; simp) (by rw [Tryz.ntmps110]; decide) (fun hO => ?_); rw [Tryz.ntmps110]
  repeat' first
    | apply x_seq | apply x_skip | apply x_block | apply x_exit | apply x_ret | apply x_ops_nil | apply p_blk | apply p_exit_it | apply p_exit_hit | apply p_ret_it | apply p_ret_blk | apply p_panic_it | apply p_panic_blk | apply p_end
    | (apply p_exit_miss; (focus rfl))
    | (apply x_region; simp only [List.toList_toArray])
    | (apply x_step0; (focus rfl); (focus (simp only [go_sem, *]; (try rfl); done)); (focus rfl); simp only [putA])
    | (apply x_panic; (focus (simp only [go_sem, *]; (try rfl); done)); (focus rfl); (focus (simp only [go_sem, *]; (try rfl); done)))
    | (apply x_step; (iterate 2 (focus (simp only [go_sem, *]; (try rfl); done))); (focus rfl); simp only [putA])
    | (apply x_unwanted; (focus (simp only [go_sem, *]; (try rfl); done)); (focus rfl); simp only [putA])
    | (apply x_condT; (focus (simp only [go_sem, *]; (try rfl); done)))
    | (apply x_condF; (focus (simp only [go_sem, *]; (try rfl); done)))
    | (apply x_guardS; (focus rfl); (fail_if_success (focus (show _ = some true; (focus (simp only [go_sem, *]; (try rfl); done))))); (focus (simp only [go_sem, *]; (try rfl); done)); all_goals (intro hb; try simp only [Bool.not_eq_true', Bool.not_eq_false'] at hb))
    | (apply x_condS; (focus (simp only [go_sem, *]; (try rfl); done)); all_goals (intro hb; try simp only [Bool.not_eq_true', Bool.not_eq_false'] at hb))
  (apply f_ret; iterate 7 (focus (simp only [go_sem, *, Tryz.results110]; (try rfl); done)))
  exact h
def lowN (b : UInt8) : Nat := (b ||| 32).toNat
def dv (b : UInt8) : Option Nat := if 48 ≤ b.toNat ∧ b.toNat ≤ 57 then some (b.toNat - 48) else if 97 ≤ lowN b ∧ lowN b ≤ 122 then some (lowN b - 87) else none
theorem dv_hex (b : UInt8) : hexD1 b = (dv b).bind fun d => if d < 16 then some d else none := by
  have : ∀ n : Nat, n < 256 → hexD1 (UInt8.ofNat n) = (dv (UInt8.ofNat n)).bind fun d => if d < 16 then some d else none := by decide +kernel
  have h := this b.toNat b.toNat_lt
  rwa [UInt8.ofNat_toNat] at h
theorem lower2 (w0 : World) (S : List Blk) (c : UInt8) (R : AOut → List Blk → Prop) (h : R (.ret (.int .u8 (lowN c : Nat))) S) : ACall Tryz.prog w0 110 [.int .u8 c.toNat] S R := lower w0 S c R h
def synV : AV := .ifc 155 (.int .i64 2)
def puS (b1 b2 : UInt8) (i acc : Nat) : Prop := (i = 0 ∧ acc = 0) ∨ (i = 1 ∧ hexD1 b1 = some acc) ∨ (i = 2 ∧ hexV b1 b2 = some acc)
theorem pu_step {b1 b2 : UInt8} {i acc : Nat} (hp : (i = 0 ∧ acc = 0) ∨ (i = 1 ∧ hexD1 b1 = some acc)) : ∃ b : UInt8, [AV.int .u8 b1.toNat, AV.int .u8 b2.toNat][i]? = some (.int .u8 b.toNat) ∧ i < 2 ∧ acc < 16 ∧ (hexD1 b = none → hexV b1 b2 = none) ∧ (∀ d, hexD1 b = some d → puS b1 b2 (i + 1) (acc * 16 + d)) := by
  rcases hp with ⟨rfl, rfl⟩ | ⟨rfl, ha⟩
  · exact ⟨b1, rfl, by omega, by omega, fun h => by simp [hexV, h], fun d h => .inr (.inl ⟨rfl, by simpa using h⟩)⟩
  · refine ⟨b2, rfl, by omega, hexD1_lt ha, fun h => by simp [hexV, ha, h], fun d h => .inr (.inr ⟨rfl, ?_⟩)⟩
    simp [hexV, ha, h]; try omega
set_option maxHeartbeats 4000000 in
theorem puIn (w0 : World) (S : List Blk) (b1 b2 : UInt8) (R : AOut → List Blk → Prop) (h : R (.ret (match hexV b1 b2 with | some v => .tup [.int .u64 v, .inil] | none => .tup [.int .u64 0, synV])) S) :
    ACall Tryz.prog w0 99 [.str [b1, b2], .int .i64 16, .int .i64 8] S R := by
  refine enter Tryz.func99 rfl (by decide +kernel) (by rw [Tryz.ntmps99]; simp) (by rw [Tryz.ntmps99]; decide) (fun hO => ?_); rw [Tryz.ntmps99]
  repeat' first
    | apply x_seq | apply x_skip | apply x_block | apply x_exit | apply x_ret | apply x_ops_nil | apply p_blk | apply p_exit_it | apply p_exit_hit | apply p_ret_it | apply p_ret_blk | apply p_panic_it | apply p_panic_blk | apply p_end
    | (apply p_exit_miss; (focus rfl))
    | (apply x_region; simp only [List.toList_toArray])
    | (apply x_step0; (focus rfl); (focus (simp only [go_sem, *]; (try rfl); done)); (focus rfl); simp only [putA])
    | (apply x_panic; (focus (simp only [go_sem, *]; (try rfl); done)); (focus rfl); (focus (simp only [go_sem, *]; (try rfl); done)))
    | (apply x_step; (iterate 2 (focus (simp only [go_sem, *]; (try rfl); done))); (focus rfl); simp only [putA])
    | (apply x_unwanted; (focus (simp only [go_sem, *]; (try rfl); done)); (focus rfl); simp only [putA])
    | (apply x_condT; (focus (simp only [go_sem, *]; (try rfl); done)))
    | (apply x_condF; (focus (simp only [go_sem, *]; (try rfl); done)))
    | (apply x_guardS; (focus rfl); (fail_if_success (focus (show _ = some true; (focus (simp only [go_sem, *]; (try rfl); done))))); (focus (simp only [go_sem, *]; (try rfl); done)); all_goals (intro hb; try simp only [Bool.not_eq_true', Bool.not_eq_false'] at hb))
    | (apply x_condS; (focus (simp only [go_sem, *]; (try rfl); done)); all_goals (intro hb; try simp only [Bool.not_eq_true', Bool.not_eq_false'] at hb))
  apply x_bytes
  · (simp only [go_sem, *]; try rfl)
  · rfl
  · (simp only [go_sem, *]; try rfl)
  · (simp only [go_sem, *]; try rfl)
  · (simp only [go_sem, *]; try rfl)
  · (simp only [go_sem, *]; try rfl)
  · rfl
  simp only [putA, List.map_cons, List.map_nil, byteAV]
  repeat' first
    | apply x_seq | apply x_skip | apply x_block | apply x_exit | apply x_ret | apply x_ops_nil | apply p_blk | apply p_exit_it | apply p_exit_hit | apply p_ret_it | apply p_ret_blk | apply p_panic_it | apply p_panic_blk | apply p_end
    | (apply p_exit_miss; (focus rfl))
    | (apply x_region; simp only [List.toList_toArray])
    | (apply x_step0; (focus rfl); (focus (simp only [go_sem, *]; (try rfl); done)); (focus rfl); simp only [putA])
    | (apply x_panic; (focus (simp only [go_sem, *]; (try rfl); done)); (focus rfl); (focus (simp only [go_sem, *]; (try rfl); done)))
    | (apply x_step; (iterate 2 (focus (simp only [go_sem, *]; (try rfl); done))); (focus rfl); simp only [putA])
    | (apply x_unwanted; (focus (simp only [go_sem, *]; (try rfl); done)); (focus rfl); simp only [putA])
    | (apply x_condT; (focus (simp only [go_sem, *]; (try rfl); done)))
    | (apply x_condF; (focus (simp only [go_sem, *]; (try rfl); done)))
    | (apply x_guardS; (focus rfl); (fail_if_success (focus (show _ = some true; (focus (simp only [go_sem, *]; (try rfl); done))))); (focus (simp only [go_sem, *]; (try rfl); done)); all_goals (intro hb; try simp only [Bool.not_eq_true', Bool.not_eq_false'] at hb))
    | (apply x_condS; (focus (simp only [go_sem, *]; (try rfl); done)); all_goals (intro hb; try simp only [Bool.not_eq_true', Bool.not_eq_false'] at hb))
  have hffw : IntKind.u64.wrap (IntKind.u64.wrap (1 * 2 ^ min (IntKind.u64.wrap 8).toNat 64) - 1) = 255 := by decide +kernel
  refine x_ind (fun (p : Nat × Nat) env S' => puS b1 b2 p.1 p.2 ∧ env 1000000 = .dfr [] ∧ env 1 = .int .i64 16 ∧ env 8 = .bool false ∧ env 9 = .str [b1, b2] ∧ env 10 = .int .u64 1152921504606846976 ∧ env 11 = .int .u64 255 ∧ env 12 = .bool false ∧ env 13 = .int .u64 p.2 ∧
    env 99 = .sval false [.int .u8 b1.toNat, .int .u8 b2.toNat] ∧ env 100 = .int .i64 2 ∧ env 101 = .int .i64 p.1 ∧ S' = S) (fun p => 2 - p.1) (0, 0) ?_ ?_
  · exact ⟨.inl ⟨rfl, rfl⟩, by (simp only [go_sem, *]; try rfl), by (simp only [go_sem, *]; try rfl), by (simp only [go_sem, *]; try rfl), by (simp only [go_sem, *]; try rfl), by (simp only [go_sem, *]; try rfl), by (simp only [go_sem, *]; try rfl), by (simp only [go_sem, *]; try rfl), by (simp only [go_sem, *]; try rfl), by (simp only [go_sem, *]; try rfl), by (simp only [go_sem, *]; try rfl), by (simp only [go_sem, *]; try rfl), rfl⟩
  · rintro ⟨i, acc⟩ env S' ⟨hp, e0, f1, f8, f9, f10, f11, f12, f13, f99, f100, f101, rfl⟩ IH
    have HI := Lib.hid IH
    have hw16 : IntKind.u8.wrap 16 = 16 := by decide
    have hw16' : IntKind.u64.wrap 16 = 16 := by decide
    have hlw := lower2 w0
    clear IH hffw
    simp only at f13 f101
    rcases or_assoc.2 hp with hp | ⟨rfl, ha⟩
    · have hps := pu_step (b2 := b2) hp
      clear hp
      obtain ⟨b, hb, hlt, hacc, hnone, hsome⟩ := hps
      have h1 : decide ((i : Int) < 2) = true := by simp; omega
      have hwi : IntKind.i64.wrap ((i : Int) + 1) = ((i + 1 : Nat) : Int) := by rw [IntWalk.i64_in _ (by omega)]; rfl
      have Hlt := Lib.hid hlt
      have d5 : decide ((1152921504606846976 : Int) ≤ (acc : Int)) = false := by simp; omega
      have w5 : IntKind.u64.wrap ((acc : Int) * 16) = ((acc * 16 : Nat) : Int) := by rw [IntWalk.u64_in _ (by omega)]; omega
      have key : ∀ d : Nat, d < 16 → IntKind.u64.wrap (d : Int) = (d : Int) ∧ IntKind.u64.wrap (((acc * 16 : Nat) : Int) + (d : Int)) = ((acc * 16 + d : Nat) : Int) ∧ decide (((acc * 16 + d : Nat) : Int) < ((acc * 16 : Nat) : Int)) = false ∧ decide ((255 : Int) < ((acc * 16 + d : Nat) : Int)) = false := by
        intro d hd
        refine ⟨IntWalk.u64_in _ (by omega), by rw [IntWalk.u64_in _ (by omega)]; omega, by simp; omega, by simp; omega⟩
      clear hlt hacc
      have Hnone := Lib.hid hnone
      have Hsome := Lib.hid hsome
      clear hnone hsome
      have Key := Lib.hid key
      clear key
      have hdv := dv_hex b
      by_cases c1 : 48 ≤ b.toNat ∧ b.toNat ≤ 57
      · have d1 : decide ((48 : Int) ≤ (b.toNat : Int)) = true := by simp; omega
        have d2 : decide ((b.toNat : Int) ≤ 57) = true := by simp; omega
        have d3 : ((b.toNat : Int) == 95) = false := by simp; omega
        have w1 : IntKind.u8.wrap ((b.toNat : Int) - 48) = ((b.toNat - 48 : Nat) : Int) := by rw [IntWalk.u8_in _ (by omega)]; omega
        have hd : hexD1 b = some (b.toNat - 48) := by rw [hdv]; simp [dv, c1]; omega
        have hd16 : b.toNat - 48 < 16 := by omega
        have d4 : decide ((16 : Int) ≤ ((b.toNat - 48 : Nat) : Int)) = false := by simp; omega
        clear hdv c1
        generalize hdd : b.toNat - 48 = d at *
        obtain ⟨k1, k2, k3, k4⟩ := Key.out d hd16
        have Hd := Lib.hid hd
        clear hdd hd hd16
        repeat' first
          | apply x_seq | apply x_skip | apply x_block | apply x_exit | apply x_ret | apply x_ops_nil | apply p_blk | apply p_exit_it | apply p_exit_hit | apply p_ret_it | apply p_ret_blk | apply p_panic_it | apply p_panic_blk | apply p_end
          | (apply p_exit_miss; (focus rfl))
          | (apply x_region; simp only [List.toList_toArray])
          | (apply x_step0; (focus rfl); (focus (simp only [go_sem, *]; (try rfl); done)); (focus rfl); simp only [putA])
          | (apply x_callA []; (focus (simp only [go_sem, *]; (try rfl); done)); (focus rfl); (focus (simp only [go_sem, *]; (try rfl); done)); (focus rfl); (iterate 2 (focus (simp only [go_sem, *]; (try rfl); done))); (first | (apply hlw)); simp only [afterCall, putA])
          | (apply x_panic; (focus (simp only [go_sem, *]; (try rfl); done)); (focus rfl); (focus (simp only [go_sem, *]; (try rfl); done)))
          | (apply x_step; (iterate 2 (focus (simp only [go_sem, *]; (try rfl); done))); (focus rfl); simp only [putA])
          | (apply x_unwanted; (focus (simp only [go_sem, *]; (try rfl); done)); (focus rfl); simp only [putA])
          | (apply x_condT; (focus (simp only [go_sem, *]; (try rfl); done)))
          | (apply x_condF; (focus (simp only [go_sem, *]; (try rfl); done)))
          | (apply x_guardS; (focus rfl); (fail_if_success (focus (show _ = some true; (focus (simp only [go_sem, *]; (try rfl); done))))); (focus (simp only [go_sem, *]; (try rfl); done)); all_goals (intro hb; try simp only [Bool.not_eq_true', Bool.not_eq_false'] at hb))
          | (apply x_condS; (focus (simp only [go_sem, *]; (try rfl); done)); all_goals (intro hb; try simp only [Bool.not_eq_true', Bool.not_eq_false'] at hb))
        refine HI.out (i + 1, acc * 16 + d) _ _ (by have := Hlt.out; simp only; omega) ⟨Hsome.out d Hd.out, ?_, ?_, ?_, ?_, ?_, ?_, ?_, ?_, ?_, ?_, ?_, rfl⟩
        all_goals (simp only [go_sem, *]; try rfl)
      · have hnd : (decide ((48 : Int) ≤ (b.toNat : Int)) && decide ((b.toNat : Int) ≤ 57)) = false := by
          rw [Bool.and_eq_false_iff]; simp; omega
        by_cases c2 : 97 ≤ lowN b ∧ lowN b ≤ 122
        · have e1 : decide ((97 : Int) ≤ (lowN b : Int)) = true := by simp; omega
          have e2 : decide ((lowN b : Int) ≤ 122) = true := by simp; omega
          have w1 : IntKind.u8.wrap ((lowN b : Int) - 97) = ((lowN b - 97 : Nat) : Int) := by rw [IntWalk.u8_in _ (by omega)]; omega
          have w2 : IntKind.u8.wrap (((lowN b - 97 : Nat) : Int) + 10) = ((lowN b - 87 : Nat) : Int) := by rw [IntWalk.u8_in _ (by omega)]; omega
          have hd : hexD1 b = if lowN b - 87 < 16 then some (lowN b - 87) else none := by rw [hdv]; simp only [dv, c1, c2, and_self, if_false, if_true, Option.bind_some]
          clear hdv c1 c2
          generalize lowN b - 87 = d at *
          generalize lowN b - 97 = e at *
          by_cases hd16 : d < 16
          · rw [if_pos hd16] at hd
            have d4 : decide ((16 : Int) ≤ (d : Int)) = false := by simp; omega
            obtain ⟨k1, k2, k3, k4⟩ := Key.out d hd16
            have Hd := Lib.hid hd
            clear hd hd16
            cases q1 : decide ((48 : Int) ≤ (b.toNat : Int)) <;> cases q2 : decide ((b.toNat : Int) ≤ 57) <;> cases q3 : ((b.toNat : Int) == 95) <;> simp only [q1, q2] at hnd <;> try (exfalso; cases hnd; done)
            all_goals clear hnd
            all_goals
              repeat' first
                | apply x_seq | apply x_skip | apply x_block | apply x_exit | apply x_ret | apply x_ops_nil | apply p_blk | apply p_exit_it | apply p_exit_hit | apply p_ret_it | apply p_ret_blk | apply p_panic_it | apply p_panic_blk | apply p_end
                | (apply p_exit_miss; (focus rfl))
                | (apply x_region; simp only [List.toList_toArray])
                | (apply x_step0; (focus rfl); (focus (simp only [go_sem, *]; (try rfl); done)); (focus rfl); simp only [putA])
                | (apply x_callA []; (focus (simp only [go_sem, *]; (try rfl); done)); (focus rfl); (focus (simp only [go_sem, *]; (try rfl); done)); (focus rfl); (iterate 2 (focus (simp only [go_sem, *]; (try rfl); done))); (first | (apply hlw)); simp only [afterCall, putA])
                | (apply x_panic; (focus (simp only [go_sem, *]; (try rfl); done)); (focus rfl); (focus (simp only [go_sem, *]; (try rfl); done)))
                | (apply x_step; (iterate 2 (focus (simp only [go_sem, *]; (try rfl); done))); (focus rfl); simp only [putA])
                | (apply x_unwanted; (focus (simp only [go_sem, *]; (try rfl); done)); (focus rfl); simp only [putA])
                | (apply x_condT; (focus (simp only [go_sem, *]; (try rfl); done)))
                | (apply x_condF; (focus (simp only [go_sem, *]; (try rfl); done)))
                | (apply x_guardS; (focus rfl); (fail_if_success (focus (show _ = some true; (focus (simp only [go_sem, *]; (try rfl); done))))); (focus (simp only [go_sem, *]; (try rfl); done)); all_goals (intro hb; try simp only [Bool.not_eq_true', Bool.not_eq_false'] at hb))
                | (apply x_condS; (focus (simp only [go_sem, *]; (try rfl); done)); all_goals (intro hb; try simp only [Bool.not_eq_true', Bool.not_eq_false'] at hb))
              refine HI.out (i + 1, acc * 16 + d) _ _ (by have := Hlt.out; simp only; omega) ⟨Hsome.out d Hd.out, ?_, ?_, ?_, ?_, ?_, ?_, ?_, ?_, ?_, ?_, ?_, rfl⟩
              all_goals (simp only [go_sem, *]; try rfl)
          · rw [if_neg hd16] at hd
            have d4 : decide ((16 : Int) ≤ (d : Int)) = true := by simp; omega
            rw [Hnone.out hd] at h
            clear hd hd16
            cases q1 : decide ((48 : Int) ≤ (b.toNat : Int)) <;> cases q2 : decide ((b.toNat : Int) ≤ 57) <;> cases q3 : ((b.toNat : Int) == 95) <;> simp only [q1, q2] at hnd <;> try (exfalso; cases hnd; done)
            all_goals clear hnd
            all_goals
              repeat' first
                | apply x_seq | apply x_skip | apply x_block | apply x_exit | apply x_ret | apply x_ops_nil | apply p_blk | apply p_exit_it | apply p_exit_hit | apply p_ret_it | apply p_ret_blk | apply p_panic_it | apply p_panic_blk | apply p_end
                | (apply p_exit_miss; (focus rfl))
                | (apply x_region; simp only [List.toList_toArray])
                | (apply x_step0; (focus rfl); (focus (simp only [go_sem, *]; (try rfl); done)); (focus rfl); simp only [putA])
                | (apply x_callA []; (focus (simp only [go_sem, *]; (try rfl); done)); (focus rfl); (focus (simp only [go_sem, *]; (try rfl); done)); (focus rfl); (iterate 2 (focus (simp only [go_sem, *]; (try rfl); done))); (first | (apply hlw)); simp only [afterCall, putA])
                | (apply x_panic; (focus (simp only [go_sem, *]; (try rfl); done)); (focus rfl); (focus (simp only [go_sem, *]; (try rfl); done)))
                | (apply x_step; (iterate 2 (focus (simp only [go_sem, *]; (try rfl); done))); (focus rfl); simp only [putA])
                | (apply x_unwanted; (focus (simp only [go_sem, *]; (try rfl); done)); (focus rfl); simp only [putA])
                | (apply x_condT; (focus (simp only [go_sem, *]; (try rfl); done)))
                | (apply x_condF; (focus (simp only [go_sem, *]; (try rfl); done)))
                | (apply x_guardS; (focus rfl); (fail_if_success (focus (show _ = some true; (focus (simp only [go_sem, *]; (try rfl); done))))); (focus (simp only [go_sem, *]; (try rfl); done)); all_goals (intro hb; try simp only [Bool.not_eq_true', Bool.not_eq_false'] at hb))
                | (apply x_condS; (focus (simp only [go_sem, *]; (try rfl); done)); all_goals (intro hb; try simp only [Bool.not_eq_true', Bool.not_eq_false'] at hb))
              (apply f_ret; iterate 7 (focus (simp only [go_sem, *, Tryz.results99]; (try rfl); done)))
              exact h
        · have hd : hexD1 b = none := by
            rw [hdv]; unfold dv; rw [if_neg c1, if_neg c2]; rfl
          rw [Hnone.out hd] at h
          have hle : (decide ((97 : Int) ≤ (lowN b : Int)) && decide ((lowN b : Int) ≤ 122)) = false := by
            rw [Bool.and_eq_false_iff]; simp; omega
          clear hd hdv c1 c2
          cases q1 : decide ((48 : Int) ≤ (b.toNat : Int)) <;> cases q2 : decide ((b.toNat : Int) ≤ 57) <;> cases q3 : ((b.toNat : Int) == 95) <;> simp only [q1, q2] at hnd <;> try (exfalso; cases hnd; done)
          all_goals clear hnd
          all_goals
            cases q4 : decide ((97 : Int) ≤ (lowN b : Int)) <;> cases q5 : decide ((lowN b : Int) ≤ 122) <;> simp only [q4, q5] at hle <;> try (exfalso; cases hle; done)
          all_goals clear hle
          all_goals
            repeat' first
              | apply x_seq | apply x_skip | apply x_block | apply x_exit | apply x_ret | apply x_ops_nil | apply p_blk | apply p_exit_it | apply p_exit_hit | apply p_ret_it | apply p_ret_blk | apply p_panic_it | apply p_panic_blk | apply p_end
              | (apply p_exit_miss; (focus rfl))
              | (apply x_region; simp only [List.toList_toArray])
              | (apply x_step0; (focus rfl); (focus (simp only [go_sem, *]; (try rfl); done)); (focus rfl); simp only [putA])
              | (apply x_callA []; (focus (simp only [go_sem, *]; (try rfl); done)); (focus rfl); (focus (simp only [go_sem, *]; (try rfl); done)); (focus rfl); (iterate 2 (focus (simp only [go_sem, *]; (try rfl); done))); (first | (apply hlw)); simp only [afterCall, putA])
              | (apply x_panic; (focus (simp only [go_sem, *]; (try rfl); done)); (focus rfl); (focus (simp only [go_sem, *]; (try rfl); done)))
              | (apply x_step; (iterate 2 (focus (simp only [go_sem, *]; (try rfl); done))); (focus rfl); simp only [putA])
              | (apply x_unwanted; (focus (simp only [go_sem, *]; (try rfl); done)); (focus rfl); simp only [putA])
              | (apply x_condT; (focus (simp only [go_sem, *]; (try rfl); done)))
              | (apply x_condF; (focus (simp only [go_sem, *]; (try rfl); done)))
              | (apply x_guardS; (focus rfl); (fail_if_success (focus (show _ = some true; (focus (simp only [go_sem, *]; (try rfl); done))))); (focus (simp only [go_sem, *]; (try rfl); done)); all_goals (intro hb; try simp only [Bool.not_eq_true', Bool.not_eq_false'] at hb))
              | (apply x_condS; (focus (simp only [go_sem, *]; (try rfl); done)); all_goals (intro hb; try simp only [Bool.not_eq_true', Bool.not_eq_false'] at hb))
            (apply f_ret; iterate 7 (focus (simp only [go_sem, *, Tryz.results99]; (try rfl); done)))
            exact h
    · simp only at ha
      rw [ha] at h
      clear ha
      repeat' first
        | apply x_seq | apply x_skip | apply x_block | apply x_exit | apply x_ret | apply x_ops_nil | apply p_blk | apply p_exit_it | apply p_exit_hit | apply p_ret_it | apply p_ret_blk | apply p_panic_it | apply p_panic_blk | apply p_end
        | (apply p_exit_miss; (focus rfl))
        | (apply x_region; simp only [List.toList_toArray])
        | (apply x_step0; (focus rfl); (focus (simp only [go_sem, *]; (try rfl); done)); (focus rfl); simp only [putA])
        | (apply x_panic; (focus (simp only [go_sem, *]; (try rfl); done)); (focus rfl); (focus (simp only [go_sem, *]; (try rfl); done)))
        | (apply x_step; (iterate 2 (focus (simp only [go_sem, *]; (try rfl); done))); (focus rfl); simp only [putA])
        | (apply x_unwanted; (focus (simp only [go_sem, *]; (try rfl); done)); (focus rfl); simp only [putA])
        | (apply x_condT; (focus (simp only [go_sem, *]; (try rfl); done)))
        | (apply x_condF; (focus (simp only [go_sem, *]; (try rfl); done)))
        | (apply x_guardS; (focus rfl); (fail_if_success (focus (show _ = some true; (focus (simp only [go_sem, *]; (try rfl); done))))); (focus (simp only [go_sem, *]; (try rfl); done)); all_goals (intro hb; try simp only [Bool.not_eq_true', Bool.not_eq_false'] at hb))
        | (apply x_condS; (focus (simp only [go_sem, *]; (try rfl); done)); all_goals (intro hb; try simp only [Bool.not_eq_true', Bool.not_eq_false'] at hb))
      (apply f_ret; iterate 7 (focus (simp only [go_sem, *, Tryz.results99]; (try rfl); done)))
      exact h
end Go.Proofs.YtnndmokndgnidaaGreatDoor
namespace Go.Proofs.YtnndmokndgnidaaGreatDoor
open Go Go.Fen
set_option linter.unusedSimpArgs false
set_option linter.unusedVariables false
attribute [local irreducible] RunX WP ACall AnyP OpA ProtL
set_option maxRecDepth 8000
def Syn (w0 : World) : Prop := ∃ ev, w0.cell? ⟨4, 0, none⟩ = some ev ∧ (ev = .nilIface ∨ ∃ te pe, ev = .iface te pe)
theorem toErr (w0 : World) (hS : Syn w0) (S : List Blk) (s : List UInt8) (hs : s.length ≤ 1000) (R : AOut → List Blk → Prop) (h : ∀ v : Value, R (.ret (.ifc 158 (.val v))) S) :
    ACall Tryz.prog w0 98 [.str [80, 97, 114, 115, 101, 85, 105, 110, 116], .str s, .int .i64 16, .int .i64 8, synV] S R := by
  refine ACall.libR (vs := [.string ⟨#[80, 97, 114, 115, 101, 85, 105, 110, 116]⟩, .string ⟨s.toArray⟩, .int .i64 16, .int .i64 8, .iface 155 (.int .i64 2)]) (Go.Proofs.enters_of Tryz.func98 (by kernel_rfl) rfl) rfl ?_
  intro w hb
  obtain ⟨ev, hv, hev⟩ := hS
  refine (Go.Proofs.Any.strconv_toError_syntax Go.Proofs.Tryz.laysC245 ⟨#[80, 97, 114, 115, 101, 85, 105, 110, 116]⟩ ⟨s.toArray⟩ 16 8 ev w ?_ ?_ hev).mono ?_
  · show s.toArray.size ≤ _
    simp; omega
  · exact (hb.cell (World.block_lt_of_cell? _ _ hv)).trans hv
  · rintro e w' ⟨N, rfl, hN, hc, hbw⟩
    exact ⟨_, rfl, hbw, .ifc 158 (.val (.pointer (some ⟨N, 0, none⟩))), fun ι ψ => .ifc _ _ _ (.val _ rfl), h _⟩
set_option maxHeartbeats 4000000 in
theorem parseUint (w0 : World) (hS : Syn w0) : PU16 w0 := by
  intro S b1 b2 R h1 h2
  have hte := fun S' => toErr w0 hS S' [b1, b2] (by simp)
  cases hh : hexV b1 b2 with
  | some v =>
    have hpu := fun S' (R : AOut → List Blk → Prop) (h : R (.ret (.tup [.int .u64 v, .inil])) S') => puIn w0 S' b1 b2 R (by rw [hh]; exact h)
    have h := h1 v hh
    clear hte h1 h2 hh
    refine enter Tryz.func87 rfl (by decide +kernel) (by rw [Tryz.ntmps87]; simp) (by rw [Tryz.ntmps87]; decide) (fun hO => ?_); rw [Tryz.ntmps87]
    repeat' first
      | apply x_seq | apply x_skip | apply x_block | apply x_exit | apply x_ret | apply x_ops_nil | apply p_blk | apply p_exit_it | apply p_exit_hit | apply p_ret_it | apply p_ret_blk | apply p_panic_it | apply p_panic_blk | apply p_end
      | (apply p_exit_miss; (focus rfl))
      | (apply x_region; simp only [List.toList_toArray])
      | (apply x_step0; (focus rfl); (focus (simp only [go_sem, *]; (try rfl); done)); (focus rfl); simp only [putA])
      | (apply x_callA []; (focus (simp only [go_sem, *]; (try rfl); done)); (focus rfl); (focus (simp only [go_sem, *]; (try rfl); done)); (focus rfl); (iterate 2 (focus (simp only [go_sem, *]; (try rfl); done))); (first | (apply hpu)); simp only [afterCall, putA])
      | (apply x_panic; (focus (simp only [go_sem, *]; (try rfl); done)); (focus rfl); (focus (simp only [go_sem, *]; (try rfl); done)))
      | (apply x_step; (iterate 2 (focus (simp only [go_sem, *]; (try rfl); done))); (focus rfl); simp only [putA])
      | (apply x_unwanted; (focus (simp only [go_sem, *]; (try rfl); done)); (focus rfl); simp only [putA])
      | (apply x_condT; (focus (simp only [go_sem, *]; (try rfl); done)))
      | (apply x_condF; (focus (simp only [go_sem, *]; (try rfl); done)))
      | (apply x_guardS; (focus rfl); (fail_if_success (focus (show _ = some true; (focus (simp only [go_sem, *]; (try rfl); done))))); (focus (simp only [go_sem, *]; (try rfl); done)); all_goals (intro hb; try simp only [Bool.not_eq_true', Bool.not_eq_false'] at hb))
      | (apply x_condS; (focus (simp only [go_sem, *]; (try rfl); done)); all_goals (intro hb; try simp only [Bool.not_eq_true', Bool.not_eq_false'] at hb))
    (apply f_ret; iterate 7 (focus (simp only [go_sem, *, Tryz.results87]; (try rfl); done)))
    exact h
  | none =>
    have hpu := fun S' (R : AOut → List Blk → Prop) (h : R (.ret (.tup [.int .u64 0, synV])) S') => puIn w0 S' b1 b2 R (by rw [hh]; exact h)
    have h := h2 hh
    clear h1 h2 hh
    unfold synV at hpu hte
    refine enter Tryz.func87 rfl (by decide +kernel) (by rw [Tryz.ntmps87]; simp) (by rw [Tryz.ntmps87]; decide) (fun hO => ?_); rw [Tryz.ntmps87]
    repeat' first
      | apply x_seq | apply x_skip | apply x_block | apply x_exit | apply x_ret | apply x_ops_nil | apply p_blk | apply p_exit_it | apply p_exit_hit | apply p_ret_it | apply p_ret_blk | apply p_panic_it | apply p_panic_blk | apply p_end
      | (apply p_exit_miss; (focus rfl))
      | (apply x_region; simp only [List.toList_toArray])
      | (apply x_step0; (focus rfl); (focus (simp only [go_sem, *]; (try rfl); done)); (focus rfl); simp only [putA])
      | (apply x_callA []; (focus (simp only [go_sem, *]; (try rfl); done)); (focus rfl); (focus (simp only [go_sem, *]; (try rfl); done)); (focus rfl); (iterate 2 (focus (simp only [go_sem, *]; (try rfl); done))); (first | (apply hpu) | (apply hte)); simp only [afterCall, putA])
      | (apply x_panic; (focus (simp only [go_sem, *]; (try rfl); done)); (focus rfl); (focus (simp only [go_sem, *]; (try rfl); done)))
      | (apply x_step; (iterate 2 (focus (simp only [go_sem, *]; (try rfl); done))); (focus rfl); simp only [putA])
      | (apply x_unwanted; (focus (simp only [go_sem, *]; (try rfl); done)); (focus rfl); simp only [putA])
      | (apply x_condT; (focus (simp only [go_sem, *]; (try rfl); done)))
      | (apply x_condF; (focus (simp only [go_sem, *]; (try rfl); done)))
      | (apply x_guardS; (focus rfl); (fail_if_success (focus (show _ = some true; (focus (simp only [go_sem, *]; (try rfl); done))))); (focus (simp only [go_sem, *]; (try rfl); done)); all_goals (intro hb; try simp only [Bool.not_eq_true', Bool.not_eq_false'] at hb))
      | (apply x_condS; (focus (simp only [go_sem, *]; (try rfl); done)); all_goals (intro hb; try simp only [Bool.not_eq_true', Bool.not_eq_false'] at hb))
    intro v
    repeat' first
      | apply x_seq | apply x_skip | apply x_block | apply x_exit | apply x_ret | apply x_ops_nil | apply p_blk | apply p_exit_it | apply p_exit_hit | apply p_ret_it | apply p_ret_blk | apply p_panic_it | apply p_panic_blk | apply p_end
      | (apply p_exit_miss; (focus rfl))
      | (apply x_region; simp only [List.toList_toArray])
      | (apply x_step0; (focus rfl); (focus (simp only [go_sem, *]; (try rfl); done)); (focus rfl); simp only [putA])
      | (apply x_panic; (focus (simp only [go_sem, *]; (try rfl); done)); (focus rfl); (focus (simp only [go_sem, *]; (try rfl); done)))
      | (apply x_step; (iterate 2 (focus (simp only [go_sem, *]; (try rfl); done))); (focus rfl); simp only [putA])
      | (apply x_unwanted; (focus (simp only [go_sem, *]; (try rfl); done)); (focus rfl); simp only [putA])
      | (apply x_condT; (focus (simp only [go_sem, *]; (try rfl); done)))
      | (apply x_condF; (focus (simp only [go_sem, *]; (try rfl); done)))
      | (apply x_guardS; (focus rfl); (fail_if_success (focus (show _ = some true; (focus (simp only [go_sem, *]; (try rfl); done))))); (focus (simp only [go_sem, *]; (try rfl); done)); all_goals (intro hb; try simp only [Bool.not_eq_true', Bool.not_eq_false'] at hb))
      | (apply x_condS; (focus (simp only [go_sem, *]; (try rfl); done)); all_goals (intro hb; try simp only [Bool.not_eq_true', Bool.not_eq_false'] at hb))
    (apply f_ret; iterate 7 (focus (simp only [go_sem, *, Tryz.results87]; (try rfl); done)))
    exact h _ _
end Go.Proofs.YtnndmokndgnidaaGreatDoor
namespace Go.Proofs.YtnndmokndgnidaaGreatDoor
open Go Go.Fen
set_option linter.unusedSimpArgs false
set_option linter.unusedVariables false
attribute [local irreducible] RunX WP ACall AnyP OpA ProtL
set_option maxRecDepth 8000
theorem chap_fastE : fasterS chapR 1 3 = (⟨10, 3, [⟨33, 1, 0, 0, [97, 10]⟩, ⟨17, 3, 20, 4, []⟩, ⟨0, 4, 0, 0, [109]⟩]⟩, 0) := by decide +kernel
theorem chap_idleE : idleS chapR 60 = (⟨10, 3, [⟨60, 1, 0, 0, [97, 10]⟩, ⟨50, 3, 20, 4, []⟩, ⟨0, 4, 0, 0, [109]⟩]⟩, 0) := by decide +kernel
set_option maxHeartbeats 1000000 in
theorem waitsE (w0 : World) (S : List Blk) (r : Rec) (hm : (r.items.length : Int) < 9223372036854775807) (R : AOut → List Blk → Prop) (h : R (.ret (.bool (r.items.map It.wait == []))) S) :
    ACall Tryz.prog w0 47 [r.av, .sval false []] S R := by
  unfold Rec.av
  cases hi : r.items with
  | nil =>
    rw [hi] at h
    clear hm
    refine enter Tryz.func47 rfl (by decide +kernel) (by rw [Tryz.ntmps47]; simp) (by rw [Tryz.ntmps47]; decide) (fun hO => ?_); rw [Tryz.ntmps47]
    repeat' first
      | apply x_seq | apply x_skip | apply x_block | apply x_exit | apply x_ret | apply x_ops_nil | apply p_blk | apply p_exit_it | apply p_exit_hit | apply p_ret_it | apply p_ret_blk | apply p_panic_it | apply p_panic_blk | apply p_end
      | (apply p_exit_miss; (focus rfl))
      | (apply x_region; simp only [List.toList_toArray])
      | (apply x_step0; (focus rfl); (focus (simp only [go_sem, *]; (try rfl); done)); (focus rfl); simp only [putA])
      | (apply x_panic; (focus (simp only [go_sem, *]; (try rfl); done)); (focus rfl); (focus (simp only [go_sem, *]; (try rfl); done)))
      | (apply x_step; (iterate 2 (focus (simp only [go_sem, *]; (try rfl); done))); (focus rfl); simp only [putA])
      | (apply x_unwanted; (focus (simp only [go_sem, *]; (try rfl); done)); (focus rfl); simp only [putA])
      | (apply x_condT; (focus (simp only [go_sem, *]; (try rfl); done)))
      | (apply x_condF; (focus (simp only [go_sem, *]; (try rfl); done)))
      | (apply x_guardS; (focus rfl); (fail_if_success (focus (show _ = some true; (focus (simp only [go_sem, *]; (try rfl); done))))); (focus (simp only [go_sem, *]; (try rfl); done)); all_goals (intro hb; try simp only [Bool.not_eq_true', Bool.not_eq_false'] at hb))
      | (apply x_condS; (focus (simp only [go_sem, *]; (try rfl); done)); all_goals (intro hb; try simp only [Bool.not_eq_true', Bool.not_eq_false'] at hb))
    refine x_ind (fun (_ : Unit) env S' => env 1000000 = .dfr [] ∧ env 1 = .sval false [] ∧ env 5 = .int .i64 0 ∧ S' = S ++ [Blk.cells [AV.int .i64 r.cols, AV.int .i64 r.rows, AV.sval false (List.map It.av [])]]) (fun _ => 0) () ?_ ?_
    · exact ⟨by (simp only [go_sem, *]; try rfl), by (simp only [go_sem, *]; try rfl), by (simp only [go_sem, *]; try rfl), rfl⟩
    · rintro u env S' ⟨e0, e1, e5, rfl⟩ IH
      clear IH
      repeat' first
        | apply x_seq | apply x_skip | apply x_block | apply x_exit | apply x_ret | apply x_ops_nil | apply p_blk | apply p_exit_it | apply p_exit_hit | apply p_ret_it | apply p_ret_blk | apply p_panic_it | apply p_panic_blk | apply p_end
        | (apply p_exit_miss; (focus rfl))
        | (apply x_region; simp only [List.toList_toArray])
        | (apply x_step0; (focus rfl); (focus (simp only [go_sem, *]; (try rfl); done)); (focus rfl); simp only [putA])
        | (apply x_panic; (focus (simp only [go_sem, *]; (try rfl); done)); (focus rfl); (focus (simp only [go_sem, *]; (try rfl); done)))
        | (apply x_step; (iterate 2 (focus (simp only [go_sem, *]; (try rfl); done))); (focus rfl); simp only [putA])
        | (apply x_unwanted; (focus (simp only [go_sem, *]; (try rfl); done)); (focus rfl); simp only [putA])
        | (apply x_condT; (focus (simp only [go_sem, *]; (try rfl); done)))
        | (apply x_condF; (focus (simp only [go_sem, *]; (try rfl); done)))
        | (apply x_guardS; (focus rfl); (fail_if_success (focus (show _ = some true; (focus (simp only [go_sem, *]; (try rfl); done))))); (focus (simp only [go_sem, *]; (try rfl); done)); all_goals (intro hb; try simp only [Bool.not_eq_true', Bool.not_eq_false'] at hb))
        | (apply x_condS; (focus (simp only [go_sem, *]; (try rfl); done)); all_goals (intro hb; try simp only [Bool.not_eq_true', Bool.not_eq_false'] at hb))
      (apply f_ret; iterate 7 (focus (simp only [go_sem, *, Tryz.results47]; (try rfl); done)))
      exact h
  | cons x l =>
    rw [hi] at h hm
    have d1 : (((x :: l).length : Int) == 0) = false := by simp; omega
    have d2 : (((x :: l).length : Int) != 0) = true := by simp; omega
    refine enter Tryz.func47 rfl (by decide +kernel) (by rw [Tryz.ntmps47]; simp) (by rw [Tryz.ntmps47]; decide) (fun hO => ?_); rw [Tryz.ntmps47]
    repeat' first
      | apply x_seq | apply x_skip | apply x_block | apply x_exit | apply x_ret | apply x_ops_nil | apply p_blk | apply p_exit_it | apply p_exit_hit | apply p_ret_it | apply p_ret_blk | apply p_panic_it | apply p_panic_blk | apply p_end
      | (apply p_exit_miss; (focus rfl))
      | (apply x_region; simp only [List.toList_toArray])
      | (apply x_step0; (focus rfl); (focus (simp only [go_sem, *]; (try rfl); done)); (focus rfl); simp only [putA])
      | (apply x_panic; (focus (simp only [go_sem, *]; (try rfl); done)); (focus rfl); (focus (simp only [go_sem, *]; (try rfl); done)))
      | (apply x_step; (iterate 2 (focus (simp only [go_sem, *]; (try rfl); done))); (focus rfl); simp only [putA])
      | (apply x_unwanted; (focus (simp only [go_sem, *]; (try rfl); done)); (focus rfl); simp only [putA])
      | (apply x_condT; (focus (simp only [go_sem, *]; (try rfl); done)))
      | (apply x_condF; (focus (simp only [go_sem, *]; (try rfl); done)))
      | (apply x_guardS; (focus rfl); (fail_if_success (focus (show _ = some true; (focus (simp only [go_sem, *]; (try rfl); done))))); (focus (simp only [go_sem, *]; (try rfl); done)); all_goals (intro hb; try simp only [Bool.not_eq_true', Bool.not_eq_false'] at hb))
      | (apply x_condS; (focus (simp only [go_sem, *]; (try rfl); done)); all_goals (intro hb; try simp only [Bool.not_eq_true', Bool.not_eq_false'] at hb))
    (apply f_ret; iterate 7 (focus (simp only [go_sem, *, Tryz.results47]; (try rfl); done)))
    exact h
set_option maxHeartbeats 16000000 in
theorem works (w0 : World) (hT : Tab w0) (hPU : PU16 w0) (S : List Blk) (R : AOut → List Blk → Prop) (h : R (.ret (.bool true)) S) : ACall Tryz.prog w0 19 [] S R := by
  have hm : (chapR.items.length : Int) < 9223372036854775807 := by decide +kernel
  obtain ⟨ci, hci⟩ : ∃ ci : List It, chapR = ⟨10, 3, ci⟩ := ⟨_, rfl⟩
  obtain ⟨i1, hi1⟩ : ∃ l : List It, l = [⟨30, 3, 20, 4, []⟩, ⟨0, 4, 0, 0, [109]⟩] := ⟨_, rfl⟩
  obtain ⟨i3, hi3⟩ : ∃ l : List It, l = [⟨100, 1, 0, 0, [97, 10]⟩] := ⟨_, rfl⟩
  obtain ⟨i4, hi4⟩ : ∃ l : List It, l = [⟨33, 1, 0, 0, [97, 10]⟩, ⟨17, 3, 20, 4, []⟩, ⟨0, 4, 0, 0, [109]⟩] := ⟨_, rfl⟩
  obtain ⟨i5, hi5⟩ : ∃ l : List It, l = [⟨60, 1, 0, 0, [97, 10]⟩, ⟨50, 3, 20, 4, []⟩, ⟨0, 4, 0, 0, [109]⟩] := ⟨_, rfl⟩
  have t1 : ∀ S' (R : AOut → List Blk → Prop), R (.ret (.tup [(Rec.mk 10 3 ci).av, .str chapS])) S' → ACall Tryz.prog w0 46 [] S' R := fun S' R h => chapter w0 S' R (by rw [hci]; exact h)
  have t2 : ∀ S' (R : AOut → List Blk → Prop), R (.ret (.tup [.str chapS, .int .i64 0])) S' → ACall Tryz.prog w0 9 [(Rec.mk 10 3 ci).av] S' R := fun S' R h => by rw [← hci]; exact print w0 hT S' chapR hm R (by rw [chap_check, chap_print]; exact h)
  have t3 : ∀ S' (R : AOut → List Blk → Prop), R (.ret (.tup [(Rec.mk 10 3 ci).av, .int .i64 0])) S' → ACall Tryz.prog w0 27 [.str chapS] S' R := fun S' R h => parse w0 hPU S' chapS (by
    intro r hr
    have := chap_parse
    unfold parseS at this
    rw [if_neg (by decide), hr] at this
    by_cases hc : checkB r = true
    · simp only [hc, if_true, Prod.mk.injEq] at this
      rw [this.1]; exact hm
    · exfalso
      simp only [hc] at this
      cases this) R (by rw [chap_parse, hci]; exact h)
  have t4 : ∀ S' (R : AOut → List Blk → Prop), R (.ret (.tup [.int .i64 150, .int .i64 0])) S' → ACall Tryz.prog w0 11 [(Rec.mk 10 3 ci).av] S' R := fun S' R h => by rw [← hci]; exact long w0 S' chapR hm R (by rw [chap_check, chap_long]; exact h)
  have t5 : ∀ S' (R : AOut → List Blk → Prop), R (.ret (.tup [(Rec.mk 10 3 i1).av, .int .i64 0])) S' → ACall Tryz.prog w0 20 [(Rec.mk 10 3 ci).av, .int .i64 120, .int .i64 200] S' R := fun S' R h => by rw [← hci]; exact cut w0 S' chapR hm 120 200 R (by rw [chap_cut1, ← hi1]; exact h)
  have t6 : ∀ S' (R : AOut → List Blk → Prop), R (.ret (.tup [.agg [.int .i64 20, .int .i64 4, .sval false []], .int .i64 0])) S' → ACall Tryz.prog w0 20 [(Rec.mk 10 3 ci).av, .int .i64 200, .int .i64 300] S' R := fun S' R h => by rw [← hci]; exact cut w0 S' chapR hm 200 300 R (by rw [chap_cut2]; exact h)
  have t7 : ∀ S' (R : AOut → List Blk → Prop), R (.ret (.tup [(Rec.mk 10 3 i3).av, .int .i64 0])) S' → ACall Tryz.prog w0 20 [(Rec.mk 10 3 ci).av, .int .i64 0, .int .i64 150] S' R := fun S' R h => by rw [← hci]; exact cut w0 S' chapR hm 0 150 R (by rw [chap_cut3, ← hi3]; exact h)
  have t8 : ∀ S' (R : AOut → List Blk → Prop), R (.ret (.tup [(Rec.mk 10 3 i4).av, .int .i64 0])) S' → ACall Tryz.prog w0 28 [(Rec.mk 10 3 ci).av, .int .i64 1, .int .i64 3] S' R := fun S' R h => by rw [← hci]; exact faster w0 S' chapR hm 1 3 R (by rw [chap_fastE, ← hi4]; exact h)
  have t9 : ∀ S' (R : AOut → List Blk → Prop), R (.ret (.tup [(Rec.mk 10 3 i5).av, .int .i64 0])) S' → ACall Tryz.prog w0 29 [(Rec.mk 10 3 ci).av, .int .i64 60] S' R := fun S' R h => by rw [← hci]; exact idle w0 S' chapR hm 60 R (by rw [chap_idleE, ← hi5]; exact h)
  have u1 : ∀ S' b g fz, S'[b]? = some (Blk.arr 3 1 fz g [.int .i64 30, .int .i64 0]) → ∀ R : AOut → List Blk → Prop, R (.ret (.bool true)) S' → ACall Tryz.prog w0 47 [(Rec.mk 10 3 i1).av, .sown b g 2] S' R := fun S' b g fz hb R h => waits w0 S' ⟨10, 3, i1⟩ [30, 0] b g fz (by rw [hi1]; decide) hb R (by rw [hi1]; exact h)
  have u2 : ∀ S' (R : AOut → List Blk → Prop), R (.ret (.bool true)) S' → ACall Tryz.prog w0 47 [.agg [.int .i64 20, .int .i64 4, .sval false []], .sval false []] S' R := fun S' R h => waitsE w0 S' ⟨20, 4, []⟩ (by decide) R h
  have u3 : ∀ S' b g fz, S'[b]? = some (Blk.arr 3 1 fz g [.int .i64 100]) → ∀ R : AOut → List Blk → Prop, R (.ret (.bool true)) S' → ACall Tryz.prog w0 47 [(Rec.mk 10 3 i3).av, .sown b g 1] S' R := fun S' b g fz hb R h => waits w0 S' ⟨10, 3, i3⟩ [100] b g fz (by rw [hi3]; decide) hb R (by rw [hi3]; exact h)
  have u4 : ∀ S' b g fz, S'[b]? = some (Blk.arr 3 1 fz g [.int .i64 33, .int .i64 17, .int .i64 0]) → ∀ R : AOut → List Blk → Prop, R (.ret (.bool true)) S' → ACall Tryz.prog w0 47 [(Rec.mk 10 3 i4).av, .sown b g 3] S' R := fun S' b g fz hb R h => waits w0 S' ⟨10, 3, i4⟩ [33, 17, 0] b g fz (by rw [hi4]; decide) hb R (by rw [hi4]; exact h)
  have u5 : ∀ S' b g fz, S'[b]? = some (Blk.arr 3 1 fz g [.int .i64 60, .int .i64 50, .int .i64 0]) → ∀ R : AOut → List Blk → Prop, R (.ret (.bool true)) S' → ACall Tryz.prog w0 47 [(Rec.mk 10 3 i5).av, .sown b g 3] S' R := fun S' b g fz hb R h => waits w0 S' ⟨10, 3, i5⟩ [60, 50, 0] b g fz (by rw [hi5]; decide) hb R (by rw [hi5]; exact h)
  have v1 : ∀ S' (R : AOut → List Blk → Prop), R (.ret (.bool true)) S' → ACall Tryz.prog w0 16 [(Rec.mk 10 3 ci).av, (Rec.mk 10 3 ci).av] S' R := fun S' R h => refSame w0 S' ⟨10, 3, ci⟩ ⟨10, 3, ci⟩ (by rw [hci] at hm; exact hm) R (by rw [show sameB (Rec.mk 10 3 ci) ⟨10, 3, ci⟩ = true by simp [sameB]]; exact h)
  have v2 : ∀ S' (R : AOut → List Blk → Prop), R (.ret (.bool true)) S' → ACall Tryz.prog w0 48 [(Rec.mk 10 3 ci).av, .int .i64 100, .int .i64 1] S' R := fun S' R h => by rw [← hci]; exact uptoLaw w0 S' chapR hm 100 1 1 chap_check chap_up1 R h
  have v3 : ∀ S' (R : AOut → List Blk → Prop), R (.ret (.bool true)) S' → ACall Tryz.prog w0 48 [(Rec.mk 10 3 ci).av, .int .i64 149, .int .i64 1] S' R := fun S' R h => by rw [← hci]; exact uptoLaw w0 S' chapR hm 149 1 1 chap_check chap_up2 R h
  have v4 : ∀ S' (R : AOut → List Blk → Prop), R (.ret (.bool true)) S' → ACall Tryz.prog w0 48 [(Rec.mk 10 3 ci).av, .int .i64 150, .int .i64 3] S' R := fun S' R h => by rw [← hci]; exact uptoLaw w0 S' chapR hm 150 3 3 chap_check chap_up3 R h
  have v5 : ∀ S' (R : AOut → List Blk → Prop), R (.ret (.bool true)) S' → ACall Tryz.prog w0 48 [(Rec.mk 10 3 ci).av, .int .i64 (-1), .int .i64 0] S' R := fun S' R h => by rw [← hci]; exact uptoLaw w0 S' chapR hm (-1) 0 0 chap_check chap_up4 R h
  obtain ⟨cs, hcs⟩ : ∃ cs, cs = chapS := ⟨_, rfl⟩
  rw [← hcs] at t1 t2 t3
  unfold Rec.av at t1 t2 t3 t4 t5 t6 t7 t8 t9 u1 u3 u4 u5 v1 v2 v3 v4 v5
  clear hm hci hi1 hi3 hi4 hi5 hT hPU hcs
  replace t1 := Lib.hid t1
  replace t2 := Lib.hid t2
  replace t3 := Lib.hid t3
  replace t4 := Lib.hid t4
  replace t5 := Lib.hid t5
  replace t6 := Lib.hid t6
  replace t7 := Lib.hid t7
  replace t8 := Lib.hid t8
  replace t9 := Lib.hid t9
  replace u1 := Lib.hid u1
  replace u2 := Lib.hid u2
  replace u3 := Lib.hid u3
  replace u4 := Lib.hid u4
  replace u5 := Lib.hid u5
  replace v1 := Lib.hid v1
  replace v2 := Lib.hid v2
  replace v3 := Lib.hid v3
  replace v4 := Lib.hid v4
  replace v5 := Lib.hid v5
  refine enter Tryz.func19 rfl (by decide +kernel) (by rw [Tryz.ntmps19]; simp) (by rw [Tryz.ntmps19]; decide) (fun hO => ?_); rw [Tryz.ntmps19]
  repeat' first
    | apply x_seq | apply x_skip | apply x_block | apply x_exit | apply x_ret | apply x_ops_nil | apply p_blk | apply p_exit_it | apply p_exit_hit | apply p_ret_it | apply p_ret_blk | apply p_panic_it | apply p_panic_blk | apply p_end
    | (apply p_exit_miss; (focus rfl))
    | (apply x_region; simp only [List.toList_toArray])
    | (apply x_step0; (focus rfl); (focus (simp only [go_sem, *]; (try rfl); done)); (focus rfl); simp only [putA])
    | (apply x_callA []; (focus (simp only [go_sem, *]; (try rfl); done)); (focus rfl); (focus (simp only [go_sem, *]; (try rfl); done)); (focus rfl); (iterate 2 (focus (simp only [go_sem, *]; (try rfl); done))); (first | (apply t1.out) | (apply t2.out) | (apply t3.out) | (apply t4.out) | (apply t5.out) | (apply t6.out) | (apply t7.out) | (apply t8.out) | (apply t9.out) | (apply u1.out; (focus (simp only [go_sem, *]; (try rfl); done))) | (apply u2.out) | (apply u3.out; (focus (simp only [go_sem, *]; (try rfl); done))) | (apply u4.out; (focus (simp only [go_sem, *]; (try rfl); done))) | (apply u5.out; (focus (simp only [go_sem, *]; (try rfl); done))) | (apply v1.out) | (apply v2.out) | (apply v3.out) | (apply v4.out) | (apply v5.out)); simp only [afterCall, putA])
    | (apply x_panic; (focus (simp only [go_sem, *]; (try rfl); done)); (focus rfl); (focus (simp only [go_sem, *]; (try rfl); done)))
    | (apply x_step; (iterate 2 (focus (simp only [go_sem, *]; (try rfl); done))); (focus rfl); simp only [putA])
    | (apply x_unwanted; (focus (simp only [go_sem, *]; (try rfl); done)); (focus rfl); simp only [putA])
    | (apply x_condT; (focus (simp only [go_sem, *]; (try rfl); done)))
    | (apply x_condF; (focus (simp only [go_sem, *]; (try rfl); done)))
    | (apply x_guardS; (focus rfl); (fail_if_success (focus (show _ = some true; (focus (simp only [go_sem, *]; (try rfl); done))))); (focus (simp only [go_sem, *]; (try rfl); done)); all_goals (intro hb; try simp only [Bool.not_eq_true', Bool.not_eq_false'] at hb))
    | (apply x_condS; (focus (simp only [go_sem, *]; (try rfl); done)); all_goals (intro hb; try simp only [Bool.not_eq_true', Bool.not_eq_false'] at hb))
  all_goals (apply f_ret; iterate 7 (focus (simp only [go_sem, *, Tryz.results19]; (try rfl); done)))
  all_goals exact h
end Go.Proofs.YtnndmokndgnidaaGreatDoor
namespace Go.Proofs.YtnndmokndgnidaaGreatDoor
open Go Go.Fen
set_option linter.unusedSimpArgs false
set_option linter.unusedVariables false
attribute [local irreducible] RunX WP ACall AnyP OpA ProtL
set_option maxRecDepth 8000
end Go.Proofs.YtnndmokndgnidaaGreatDoor
namespace Go.Proofs.YtnndmokndgnidaaGreatDoor
open Go Go.Fen
set_option linter.unusedSimpArgs false
set_option linter.unusedVariables false
attribute [local irreducible] RunX WP ACall AnyP OpA ProtL
set_option maxRecDepth 8000
theorem tmz_step {l : List It} (hw : ∀ x ∈ l, 0 ≤ x.wait) (k : Nat) : tmz l k ≤ tmz l (k + 1) := by
  cases hx : l[k]? with
  | none =>
    have hk : l.length ≤ k := by rw [List.getElem?_eq_none_iff] at hx; exact hx
    unfold tmz
    rw [List.take_of_length_le hk, List.take_of_length_le (by omega)]
    exact Int.le_refl _
  | some x =>
    rw [tmz_succ hx]
    have := hw x (List.mem_of_getElem? hx)
    omega
theorem tmz_mono {l : List It} (hw : ∀ x ∈ l, 0 ≤ x.wait) {i j : Nat} (h : i ≤ j) : tmz l i ≤ tmz l j := by
  induction h with
  | refl => exact Int.le_refl _
  | step _ ih => exact Int.le_trans ih (tmz_step hw _)
theorem upTo_ex (l : List It) (t : Int) : ∃ n, UpTo l t n := by
  have key : ∀ m, m ≤ l.length → (∃ n, UpTo l t n) ∨ ∀ j, j < m → tmz l (j + 1) ≤ t := by
    intro m
    induction m with
    | zero => intro _; exact .inr fun j hj => by omega
    | succ m ih =>
      intro hm
      rcases ih (by omega) with h | h
      · exact .inl h
      · by_cases hk : tmz l (m + 1) ≤ t
        · exact .inr fun j hj => by
            by_cases e : j = m
            · rw [e]; exact hk
            · exact h j (by omega)
        · exact .inl ⟨m, h, by omega, fun _ => by omega⟩
  rcases key l.length (Nat.le_refl _) with h | h
  · exact h
  · exact ⟨l.length, h, Nat.le_refl _, fun h => by omega⟩
end Go.Proofs.YtnndmokndgnidaaGreatDoor
namespace Go.Proofs.YtnndmokndgnidaaGreatDoor
open Go Go.Fen
set_option linter.unusedSimpArgs false
set_option linter.unusedVariables false
attribute [local irreducible] RunX WP ACall AnyP OpA ProtL
set_option maxRecDepth 8000
set_option maxHeartbeats 4000000 in
theorem refTime (w0 : World) (S : List Blk) (r : Rec) (hw : Waits r.items) (R : AOut → List Blk → Prop) (h : R (.ret (.int .i64 (tmz r.items r.items.length))) S) :
    ACall Tryz.prog w0 39 [r.av, .int .i64 ((r.items.length : Int) - 1)] S R := by
  have hTb : ∀ k, 0 ≤ tmz r.items k ∧ tmz r.items k ≤ 1000000000 := fun k => by have := tmz_bd hw.2 k; have := hw.1; omega
  have Hlen := Lib.hid hw.1
  have HTb := Lib.hid hTb
  have e00 : tmz r.items 0 = 0 := rfl
  clear hTb hw
  unfold Rec.av
  refine enter Tryz.func39 rfl (by decide +kernel) (by rw [Tryz.ntmps39]; simp) (by rw [Tryz.ntmps39]; decide) (fun hO => ?_); rw [Tryz.ntmps39]
  repeat' first
    | apply x_seq | apply x_skip | apply x_block | apply x_exit | apply x_ret | apply x_ops_nil | apply p_blk | apply p_exit_it | apply p_exit_hit | apply p_ret_it | apply p_ret_blk | apply p_panic_it | apply p_panic_blk | apply p_end
    | (apply p_exit_miss; (focus rfl))
    | (apply x_region; simp only [List.toList_toArray])
    | (apply x_step0; (focus rfl); (focus (simp only [go_sem, *]; (try rfl); done)); (focus rfl); simp only [putA])
    | (apply x_panic; (focus (simp only [go_sem, *]; (try rfl); done)); (focus rfl); (focus (simp only [go_sem, *]; (try rfl); done)))
    | (apply x_step; (iterate 2 (focus (simp only [go_sem, *]; (try rfl); done))); (focus rfl); simp only [putA])
    | (apply x_unwanted; (focus (simp only [go_sem, *]; (try rfl); done)); (focus rfl); simp only [putA])
    | (apply x_condT; (focus (simp only [go_sem, *]; (try rfl); done)))
    | (apply x_condF; (focus (simp only [go_sem, *]; (try rfl); done)))
    | (apply x_guardS; (focus rfl); (fail_if_success (focus (show _ = some true; (focus (simp only [go_sem, *]; (try rfl); done))))); (focus (simp only [go_sem, *]; (try rfl); done)); all_goals (intro hb; try simp only [Bool.not_eq_true', Bool.not_eq_false'] at hb))
    | (apply x_condS; (focus (simp only [go_sem, *]; (try rfl); done)); all_goals (intro hb; try simp only [Bool.not_eq_true', Bool.not_eq_false'] at hb))
  refine x_ind (fun (i : Nat) env S' => i ≤ r.items.length ∧ env 1000000 = .dfr [] ∧ env 1 = .int .i64 ((r.items.length : Int) - 1) ∧ env 2 = .own S.length 0 ∧ env 5 = .int .i64 (tmz r.items i) ∧ env 6 = .int .i64 (i : Int) ∧ S' = S ++ [Blk.cells [.int .i64 r.cols, .int .i64 r.rows, .sval false (r.items.map It.av)]]) (fun i => r.items.length - i) 0 ?_ ?_
  · exact ⟨Nat.zero_le _, by (simp only [go_sem, *]; try rfl), by (simp only [go_sem, *]; try rfl), by (simp only [go_sem, *]; try rfl), by (simp only [go_sem, *]; try rfl), by (simp only [go_sem, *]; try rfl), rfl⟩
  · clear e00
    rintro i env S' ⟨hi, e0, e1, e2, e5, e6, rfl⟩ IH
    have HI := Lib.hid IH
    clear IH
    by_cases hlt : i < r.items.length
    · obtain ⟨x, hx⟩ : ∃ x, r.items[i]? = some x := ⟨_, List.getElem?_eq_getElem hlt⟩
      have h1 : decide ((i : Int) ≤ (r.items.length : Int) - 1) = true := by simp; omega
      have hii : (i : Int) < (r.items.length : Int) := by omega
      have hw : IntKind.i64.wrap ((i : Int) + 1) = (i : Int) + 1 := IntWalk.i64_in _ (by have := Hlen.out; omega)
      have q1 : IntKind.i64.wrap (tmz r.items i + x.wait) = tmz r.items (i + 1) := by rw [← tmz_succ hx]; exact IntWalk.i64_in _ (by have := HTb.out (i + 1); omega)
      have Hlt := Lib.hid hlt
      clear hlt hi
      repeat' first
        | apply x_seq | apply x_skip | apply x_block | apply x_exit | apply x_ret | apply x_ops_nil | apply p_blk | apply p_exit_it | apply p_exit_hit | apply p_ret_it | apply p_ret_blk | apply p_panic_it | apply p_panic_blk | apply p_end
        | (apply p_exit_miss; (focus rfl))
        | (apply x_region; simp only [List.toList_toArray])
        | (apply x_step0; (focus rfl); (focus (simp only [go_sem, *, It.av]; (try rfl); done)); (focus rfl); simp only [putA])
        | (apply x_panic; (focus (simp only [go_sem, *, It.av]; (try rfl); done)); (focus rfl); (focus (simp only [go_sem, *, It.av]; (try rfl); done)))
        | (apply x_step; (iterate 2 (focus (simp only [go_sem, *, It.av]; (try rfl); done))); (focus rfl); simp only [putA])
        | (apply x_unwanted; (focus (simp only [go_sem, *, It.av]; (try rfl); done)); (focus rfl); simp only [putA])
        | (apply x_condT; (focus (simp only [go_sem, *, It.av]; (try rfl); done)))
        | (apply x_condF; (focus (simp only [go_sem, *, It.av]; (try rfl); done)))
        | (apply x_guardS; (focus rfl); (fail_if_success (focus (show _ = some true; (focus (simp only [go_sem, *, It.av]; (try rfl); done))))); (focus (simp only [go_sem, *, It.av]; (try rfl); done)); all_goals (intro hb; try simp only [Bool.not_eq_true', Bool.not_eq_false'] at hb))
        | (apply x_condS; (focus (simp only [go_sem, *, It.av]; (try rfl); done)); all_goals (intro hb; try simp only [Bool.not_eq_true', Bool.not_eq_false'] at hb))
        | (apply d_draw; (focus exact mixed); (focus ((simp only [List.size_toArray, List.length_cons, List.length_nil, Nat.reduceAdd]; try rfl); done)))
        | (apply d_done; (focus decide +kernel))
        | ((first | (apply d_take 0; (focus decide +kernel)) | (apply d_take 1; (focus decide +kernel)) | (apply d_take 2; (focus decide +kernel)) | (apply d_take 3; (focus decide +kernel)) | (apply d_take 4; (focus decide +kernel)) | (apply d_take 5; (focus decide +kernel)) | (apply d_take 6; (focus decide +kernel)) | (apply d_take 7; (focus decide +kernel)) | (apply d_take 8; (focus decide +kernel)) | (apply d_take 9; (focus decide +kernel)) | (apply d_take 10; (focus decide +kernel)) | (apply d_take 11; (focus decide +kernel)) | (apply d_take 12; (focus decide +kernel)) | (apply d_take 13; (focus decide +kernel)) | (apply d_take 14; (focus decide +kernel)) | (apply d_take 15; (focus decide +kernel)) | (apply d_take 16; (focus decide +kernel)) | (apply d_take 17; (focus decide +kernel))); (focus (first | exact qds_FPost | exact qds_RPost | exact qds_YB | assumption)); (focus rfl); (iterate 3 (focus (simp only [go_sem, *, It.av]; (try rfl); done))); (focus rfl); (focus (simp only [go_sem, *, It.av]; (try rfl); done)); simp only [putA])
        | ((first | (apply d_unw 0; (focus decide +kernel)) | (apply d_unw 1; (focus decide +kernel)) | (apply d_unw 2; (focus decide +kernel)) | (apply d_unw 3; (focus decide +kernel)) | (apply d_unw 4; (focus decide +kernel)) | (apply d_unw 5; (focus decide +kernel)) | (apply d_unw 6; (focus decide +kernel)) | (apply d_unw 7; (focus decide +kernel)) | (apply d_unw 8; (focus decide +kernel)) | (apply d_unw 9; (focus decide +kernel)) | (apply d_unw 10; (focus decide +kernel)) | (apply d_unw 11; (focus decide +kernel)) | (apply d_unw 12; (focus decide +kernel)) | (apply d_unw 13; (focus decide +kernel)) | (apply d_unw 14; (focus decide +kernel)) | (apply d_unw 15; (focus decide +kernel)) | (apply d_unw 16; (focus decide +kernel)) | (apply d_unw 17; (focus decide +kernel))); (focus (first | exact qds_FPost | exact qds_RPost | exact qds_YB | assumption)); (focus rfl); (iterate 2 (focus (simp only [go_sem, *, It.av]; (try rfl); done))); (focus rfl); simp only [putA])
        | (first | (apply d_one 0; (focus decide +kernel)) | (apply d_one 1; (focus decide +kernel)) | (apply d_one 2; (focus decide +kernel)) | (apply d_one 3; (focus decide +kernel)) | (apply d_one 4; (focus decide +kernel)) | (apply d_one 5; (focus decide +kernel)) | (apply d_one 6; (focus decide +kernel)) | (apply d_one 7; (focus decide +kernel)) | (apply d_one 8; (focus decide +kernel)) | (apply d_one 9; (focus decide +kernel)) | (apply d_one 10; (focus decide +kernel)) | (apply d_one 11; (focus decide +kernel)) | (apply d_one 12; (focus decide +kernel)) | (apply d_one 13; (focus decide +kernel)) | (apply d_one 14; (focus decide +kernel)) | (apply d_one 15; (focus decide +kernel)) | (apply d_one 16; (focus decide +kernel)) | (apply d_one 17; (focus decide +kernel)))
        | (apply o_step; (iterate 3 (focus (simp only [go_sem, *, It.av]; (try rfl); done))); (focus rfl); simp only [putA])
        | (apply o_unw; (iterate 2 (focus (simp only [go_sem, *, It.av]; (try rfl); done))); (focus rfl); simp only [putA])
        | apply pr_nil | apply pr_same | apply pr_go | apply pl_nil | apply pl_none | (apply pl_skip; (focus decide +kernel)) | (apply pl_one; (focus (simp only [go_sem, *, It.av]; (try rfl); done)))
      refine x_keep hO 1 [1, 2, 5, 6] rfl (by (simp only [go_sem, *]; try rfl)) (by (simp only [go_sem, *]; try rfl)) (by (simp only [go_sem, *]; try rfl)) ?_
      simp only [List.take_succ_cons, List.take_zero]
      refine HI.out (i + 1) _ _ (by have := Hlt.out; omega) ⟨Hlt.out, ?_, ?_, ?_, ?_, ?_, rfl⟩
      all_goals (simp only [go_sem, *]; try rfl)
    · have hil : i = r.items.length := by omega
      rw [hil] at e5
      have h1 : decide ((i : Int) ≤ (r.items.length : Int) - 1) = false := by simp; omega
      clear hlt hi hil
      repeat' first
        | apply x_seq | apply x_skip | apply x_block | apply x_exit | apply x_ret | apply x_ops_nil | apply p_blk | apply p_exit_it | apply p_exit_hit | apply p_ret_it | apply p_ret_blk | apply p_panic_it | apply p_panic_blk | apply p_end
        | (apply p_exit_miss; (focus rfl))
        | (apply x_region; simp only [List.toList_toArray])
        | (apply x_step0; (focus rfl); (focus (simp only [go_sem, *]; (try rfl); done)); (focus rfl); simp only [putA])
        | (apply x_panic; (focus (simp only [go_sem, *]; (try rfl); done)); (focus rfl); (focus (simp only [go_sem, *]; (try rfl); done)))
        | (apply x_step; (iterate 2 (focus (simp only [go_sem, *]; (try rfl); done))); (focus rfl); simp only [putA])
        | (apply x_unwanted; (focus (simp only [go_sem, *]; (try rfl); done)); (focus rfl); simp only [putA])
        | (apply x_condT; (focus (simp only [go_sem, *]; (try rfl); done)))
        | (apply x_condF; (focus (simp only [go_sem, *]; (try rfl); done)))
        | (apply x_guardS; (focus rfl); (fail_if_success (focus (show _ = some true; (focus (simp only [go_sem, *]; (try rfl); done))))); (focus (simp only [go_sem, *]; (try rfl); done)); all_goals (intro hb; try simp only [Bool.not_eq_true', Bool.not_eq_false'] at hb))
        | (apply x_condS; (focus (simp only [go_sem, *]; (try rfl); done)); all_goals (intro hb; try simp only [Bool.not_eq_true', Bool.not_eq_false'] at hb))
      (apply f_ret; iterate 7 (focus (simp only [go_sem, *, Tryz.results39]; (try rfl); done)))
      exact h
def longS (r : Rec) : Int × Int := if checkB r then (tmz r.items r.items.length, 0) else (0, 520)
set_option maxHeartbeats 2000000 in
theorem refLong (w0 : World) (S : List Blk) (r : Rec) (hm : (r.items.length : Int) < 9223372036854775807) (R : AOut → List Blk → Prop) (h : R (.ret (.tup [.int .i64 (longS r).1, .int .i64 (longS r).2])) S) : ACall Tryz.prog w0 12 [r.av] S R := by
  have hck := fun S' => refCheck w0 S' r
  unfold longS at h
  cases hc : checkB r with
  | false =>
    simp only [hc, Bool.false_eq_true, if_false] at h hck
    clear hm
    unfold Rec.av at hck ⊢
    replace hck := Lib.hid hck
    refine enter Tryz.func12 rfl (by decide +kernel) (by rw [Tryz.ntmps12]; simp) (by rw [Tryz.ntmps12]; decide) (fun hO => ?_); rw [Tryz.ntmps12]
    repeat' first
      | apply x_seq | apply x_skip | apply x_block | apply x_exit | apply x_ret | apply x_ops_nil | apply p_blk | apply p_exit_it | apply p_exit_hit | apply p_ret_it | apply p_ret_blk | apply p_panic_it | apply p_panic_blk | apply p_end
      | (apply p_exit_miss; (focus rfl))
      | (apply x_region; simp only [List.toList_toArray])
      | (apply x_step0; (focus rfl); (focus (simp only [go_sem, *]; (try rfl); done)); (focus rfl); simp only [putA])
      | (apply x_callA []; (focus (simp only [go_sem, *]; (try rfl); done)); (focus rfl); (focus (simp only [go_sem, *]; (try rfl); done)); (focus rfl); (iterate 2 (focus (simp only [go_sem, *]; (try rfl); done))); (first | (apply hck.out)); simp only [afterCall, putA])
      | (apply x_panic; (focus (simp only [go_sem, *]; (try rfl); done)); (focus rfl); (focus (simp only [go_sem, *]; (try rfl); done)))
      | (apply x_step; (iterate 2 (focus (simp only [go_sem, *]; (try rfl); done))); (focus rfl); simp only [putA])
      | (apply x_unwanted; (focus (simp only [go_sem, *]; (try rfl); done)); (focus rfl); simp only [putA])
      | (apply x_condT; (focus (simp only [go_sem, *]; (try rfl); done)))
      | (apply x_condF; (focus (simp only [go_sem, *]; (try rfl); done)))
      | (apply x_guardS; (focus rfl); (fail_if_success (focus (show _ = some true; (focus (simp only [go_sem, *]; (try rfl); done))))); (focus (simp only [go_sem, *]; (try rfl); done)); all_goals (intro hb; try simp only [Bool.not_eq_true', Bool.not_eq_false'] at hb))
      | (apply x_condS; (focus (simp only [go_sem, *]; (try rfl); done)); all_goals (intro hb; try simp only [Bool.not_eq_true', Bool.not_eq_false'] at hb))
    (apply f_ret; iterate 7 (focus (simp only [go_sem, *, Tryz.results12]; (try rfl); done)))
    exact h
  | true =>
    simp only [hc, if_true] at h hck
    have ht := Lib.hid (fun S' => refTime w0 S' r (waits_of hc))
    have q1 : IntKind.i64.wrap ((r.items.length : Int) - 1) = (r.items.length : Int) - 1 := IntWalk.i64_in _ (by omega)
    clear hm
    unfold Rec.av at hck ht ⊢
    replace hck := Lib.hid hck
    refine enter Tryz.func12 rfl (by decide +kernel) (by rw [Tryz.ntmps12]; simp) (by rw [Tryz.ntmps12]; decide) (fun hO => ?_); rw [Tryz.ntmps12]
    repeat' first
      | apply x_seq | apply x_skip | apply x_block | apply x_exit | apply x_ret | apply x_ops_nil | apply p_blk | apply p_exit_it | apply p_exit_hit | apply p_ret_it | apply p_ret_blk | apply p_panic_it | apply p_panic_blk | apply p_end
      | (apply p_exit_miss; (focus rfl))
      | (apply x_region; simp only [List.toList_toArray])
      | (apply x_step0; (focus rfl); (focus (simp only [go_sem, *]; (try rfl); done)); (focus rfl); simp only [putA])
      | (apply x_callA []; (focus (simp only [go_sem, *]; (try rfl); done)); (focus rfl); (focus (simp only [go_sem, *]; (try rfl); done)); (focus rfl); (iterate 2 (focus (simp only [go_sem, *]; (try rfl); done))); (first | (apply hck.out) | (apply ht.out)); simp only [afterCall, putA])
      | (apply x_panic; (focus (simp only [go_sem, *]; (try rfl); done)); (focus rfl); (focus (simp only [go_sem, *]; (try rfl); done)))
      | (apply x_step; (iterate 2 (focus (simp only [go_sem, *]; (try rfl); done))); (focus rfl); simp only [putA])
      | (apply x_unwanted; (focus (simp only [go_sem, *]; (try rfl); done)); (focus rfl); simp only [putA])
      | (apply x_condT; (focus (simp only [go_sem, *]; (try rfl); done)))
      | (apply x_condF; (focus (simp only [go_sem, *]; (try rfl); done)))
      | (apply x_guardS; (focus rfl); (fail_if_success (focus (show _ = some true; (focus (simp only [go_sem, *]; (try rfl); done))))); (focus (simp only [go_sem, *]; (try rfl); done)); all_goals (intro hb; try simp only [Bool.not_eq_true', Bool.not_eq_false'] at hb))
      | (apply x_condS; (focus (simp only [go_sem, *]; (try rfl); done)); all_goals (intro hb; try simp only [Bool.not_eq_true', Bool.not_eq_false'] at hb))
    (apply f_ret; iterate 7 (focus (simp only [go_sem, *, Tryz.results12]; (try rfl); done)))
    exact h
end Go.Proofs.YtnndmokndgnidaaGreatDoor
namespace Go.Proofs.YtnndmokndgnidaaGreatDoor
open Go Go.Fen
set_option linter.unusedSimpArgs false
set_option linter.unusedVariables false
attribute [local irreducible] RunX WP ACall AnyP OpA ProtL
set_option maxRecDepth 8000
theorem digitsI (w0 : World) (S : List Blk) (n : Int) (h0 : 0 ≤ n) (h1 : n < 1000000000000000000) (R : AOut → List Blk → Prop) (h : R (.ret (.str (Lib.itoa n))) S) : ACall Tryz.prog w0 36 [.int .i64 n] S R := by
  obtain ⟨u, rfl⟩ : ∃ u : Nat, n = u := ⟨n.toNat, by omega⟩
  rw [Lib.itoa_nonneg] at h
  exact digits w0 u S (by omega) R h
theorem item_txt {x : It} (h : itemB x = true) : x.text.length ≤ 4096 := by
  unfold itemB at h
  simp only [Bool.and_eq_true, decide_eq_true_eq] at h
  have h2 := h.2
  split at h2
  · simp only [Bool.and_eq_true, decide_eq_true_eq, beq_iff_eq] at h2; omega
  · split at h2
    · simp only [Bool.and_eq_true, decide_eq_true_eq, beq_iff_eq] at h2; omega
    · split at h2
      · simp only [Bool.and_eq_true, beq_iff_eq] at h2; rw [h2.2]; simp
      · cases h2
theorem line_len4 {x : It} (hx : itemB x = true) : (lineS x).length ≤ 17000 := by
  obtain ⟨hw, hk, h3, hn3⟩ := item_kind hx
  have ht := item_txt hx
  have h1 := Lib.itoa_length_le x.wait (by omega) (by omega)
  unfold lineS
  simp only [List.length_append, List.length_cons, List.length_nil]
  split
  · next k3 =>
    have hb := size_bd (h3 k3).1
    have h2 := Lib.itoa_length_le x.cols (by omega) (by omega)
    have h4 := Lib.itoa_length_le x.rows (by omega) (by omega)
    simp only [twoS, List.length_append, List.length_cons, List.length_nil]
    omega
  · have := flat_len x.text
    simp only [quoteS, List.length_append, List.length_cons, List.length_nil]
    omega
theorem body_len {r : Rec} (hc : checkB r = true) (k : Nat) (hk : k ≤ r.items.length) : (bodyS r k).length ≤ 100 + 17000 * k := by
  unfold checkB at hc
  simp only [Bool.and_eq_true, decide_eq_true_eq, List.all_eq_true] at hc
  have hb := size_bd hc.1.1
  have h2 := Lib.itoa_length_le r.cols (by omega) (by omega)
  have h4 := Lib.itoa_length_le r.rows (by omega) (by omega)
  have hl : ∀ l : List It, (∀ x ∈ l, itemB x = true) → (l.flatMap lineS).length ≤ 17000 * l.length := by
    intro l
    induction l with
    | nil => intro _; simp
    | cons x l ih =>
      intro h
      have a := line_len4 (h x (List.mem_cons_self ..))
      have b := ih fun y hy => h y (List.mem_cons_of_mem _ hy)
      rw [List.flatMap_cons, List.length_append, List.length_cons]
      omega
  have h5 := hl (r.items.take k) fun x hx => hc.2 x (List.mem_of_mem_take hx)
  have h6 : (r.items.take k).length ≤ k := List.length_take_le _ _
  unfold bodyS headS twoS
  simp only [List.length_append, List.length_cons, List.length_nil]
  omega
theorem body_step {r : Rec} {k : Nat} {x : It} (h : r.items[k]? = some x) : bodyS r (k + 1) = bodyS r k ++ lineS x := by
  unfold bodyS
  rw [List.take_add_one, h]
  simp
def printP (r : Rec) : List UInt8 × Int := if checkB r then (printS r, 0) else ([], 520)
set_option maxHeartbeats 8000000 in
theorem refPrint (w0 : World) (S : List Blk) (r : Rec) (R : AOut → List Blk → Prop) (h : R (.ret (.tup [.str (printP r).1, .int .i64 (printP r).2])) S) : ACall Tryz.prog w0 10 [r.av] S R := by
  have hck := fun S' => refCheck w0 S' r
  unfold printP at h
  cases hc : checkB r with
  | false =>
    simp only [hc, Bool.false_eq_true, if_false] at h hck
    unfold Rec.av at hck ⊢
    replace hck := Lib.hid hck
    refine enter Tryz.func10 rfl (by decide +kernel) (by rw [Tryz.ntmps10]; simp) (by rw [Tryz.ntmps10]; decide) (fun hO => ?_); rw [Tryz.ntmps10]
    repeat' first
      | apply x_seq | apply x_skip | apply x_block | apply x_exit | apply x_ret | apply x_ops_nil | apply p_blk | apply p_exit_it | apply p_exit_hit | apply p_ret_it | apply p_ret_blk | apply p_panic_it | apply p_panic_blk | apply p_end
      | (apply p_exit_miss; (focus rfl))
      | (apply x_region; simp only [List.toList_toArray])
      | (apply x_step0; (focus rfl); (focus (simp only [go_sem, *]; (try rfl); done)); (focus rfl); simp only [putA])
      | (apply x_callA []; (focus (simp only [go_sem, *]; (try rfl); done)); (focus rfl); (focus (simp only [go_sem, *]; (try rfl); done)); (focus rfl); (iterate 2 (focus (simp only [go_sem, *]; (try rfl); done))); (first | (apply hck.out)); simp only [afterCall, putA])
      | (apply x_panic; (focus (simp only [go_sem, *]; (try rfl); done)); (focus rfl); (focus (simp only [go_sem, *]; (try rfl); done)))
      | (apply x_step; (iterate 2 (focus (simp only [go_sem, *]; (try rfl); done))); (focus rfl); simp only [putA])
      | (apply x_unwanted; (focus (simp only [go_sem, *]; (try rfl); done)); (focus rfl); simp only [putA])
      | (apply x_condT; (focus (simp only [go_sem, *]; (try rfl); done)))
      | (apply x_condF; (focus (simp only [go_sem, *]; (try rfl); done)))
      | (apply x_guardS; (focus rfl); (fail_if_success (focus (show _ = some true; (focus (simp only [go_sem, *]; (try rfl); done))))); (focus (simp only [go_sem, *]; (try rfl); done)); all_goals (intro hb; try simp only [Bool.not_eq_true', Bool.not_eq_false'] at hb))
      | (apply x_condS; (focus (simp only [go_sem, *]; (try rfl); done)); all_goals (intro hb; try simp only [Bool.not_eq_true', Bool.not_eq_false'] at hb))
    (apply f_ret; iterate 7 (focus (simp only [go_sem, *, Tryz.results10]; (try rfl); done)))
    exact h
  | true =>
    simp only [hc, if_true] at h hck
    have hc' := hc
    unfold checkB at hc'
    simp only [Bool.and_eq_true, decide_eq_true_eq, List.all_eq_true] at hc'
    have hsz := size_bd hc'.1.1
    have d1 := fun S' => digitsI w0 S' r.cols (by omega) (by omega)
    have d2 := fun S' => digitsI w0 S' r.rows (by omega) (by omega)
    have l1 := Lib.itoa_length_le r.cols (by omega) (by omega)
    have l2 := Lib.itoa_length_le r.rows (by omega) (by omega)
    have Hit := Lib.hid hc'.2
    have Hlen := Lib.hid hc'.1.2
    have hbl := Lib.hid (body_len hc)
    have E0 : bodyS r 0 = [102, 101, 110, 101, 115, 116, 114, 97, 32, 49, 32] ++ Lib.itoa r.cols ++ [32] ++ Lib.itoa r.rows ++ [10] := by
      unfold bodyS headS twoS
      simp
    obtain ⟨ic, hic⟩ : ∃ ic, ic = Lib.itoa r.cols := ⟨_, rfl⟩
    obtain ⟨ir, hir⟩ : ∃ ir, ir = Lib.itoa r.rows := ⟨_, rfl⟩
    rw [← hic] at d1 l1 E0
    rw [← hir] at d2 l2 E0
    have j1 : 11 + ic.length ≤ 9223372036854775807 := by omega
    have j2 : ([102, 101, 110, 101, 115, 116, 114, 97, 32, 49, 32] ++ ic : List UInt8).length + 1 ≤ 9223372036854775807 := by simp only [List.length_append, List.length_cons, List.length_nil]; omega
    have j3 : ([102, 101, 110, 101, 115, 116, 114, 97, 32, 49, 32] ++ ic ++ [32] : List UInt8).length + ir.length ≤ 9223372036854775807 := by simp only [List.length_append, List.length_cons, List.length_nil]; omega
    have j4 : ([102, 101, 110, 101, 115, 116, 114, 97, 32, 49, 32] ++ ic ++ [32] ++ ir : List UInt8).length + 1 ≤ 9223372036854775807 := by simp only [List.length_append, List.length_cons, List.length_nil]; omega
    simp only [List.cons_append, List.nil_append, List.length_cons, List.length_append, List.length_nil, Nat.zero_add] at j2 j3 j4
    clear hic hir
    clear hc' hsz l1 l2 hc
    replace d1 := Lib.hid d1
    replace d2 := Lib.hid d2
    replace E0 := Lib.hid E0
    unfold Rec.av at hck ⊢
    replace hck := Lib.hid hck
    refine enter Tryz.func10 rfl (by decide +kernel) (by rw [Tryz.ntmps10]; simp) (by rw [Tryz.ntmps10]; decide) (fun hO => ?_); rw [Tryz.ntmps10]
    repeat' first
      | apply x_seq | apply x_skip | apply x_block | apply x_exit | apply x_ret | apply x_ops_nil | apply p_blk | apply p_exit_it | apply p_exit_hit | apply p_ret_it | apply p_ret_blk | apply p_panic_it | apply p_panic_blk | apply p_end
      | (apply p_exit_miss; (focus rfl))
      | (apply x_region; simp only [List.toList_toArray])
      | (apply x_step0; (focus rfl); (focus (simp only [go_sem, *, List.length_append]; (try rfl); done)); (focus rfl); simp only [putA])
      | (apply x_callA []; (focus (simp only [go_sem, *, List.length_append]; (try rfl); done)); (focus rfl); (focus (simp only [go_sem, *, List.length_append]; (try rfl); done)); (focus rfl); (iterate 2 (focus (simp only [go_sem, *, List.length_append]; (try rfl); done))); (first | (apply hck.out) | (apply d1.out) | (apply d2.out)); simp only [afterCall, putA])
      | (apply x_panic; (focus (simp only [go_sem, *, List.length_append]; (try rfl); done)); (focus rfl); (focus (simp only [go_sem, *, List.length_append]; (try rfl); done)))
      | (apply x_step; (iterate 2 (focus (simp only [go_sem, *, List.length_append]; (try rfl); done))); (focus rfl); simp only [putA])
      | (apply x_unwanted; (focus (simp only [go_sem, *, List.length_append]; (try rfl); done)); (focus rfl); simp only [putA])
      | (apply x_condT; (focus (simp only [go_sem, *, List.length_append]; (try rfl); done)))
      | (apply x_condF; (focus (simp only [go_sem, *, List.length_append]; (try rfl); done)))
      | (apply x_guardS; (focus rfl); (fail_if_success (focus (show _ = some true; (focus (simp only [go_sem, *, List.length_append]; (try rfl); done))))); (focus (simp only [go_sem, *, List.length_append]; (try rfl); done)); all_goals (intro hb; try simp only [Bool.not_eq_true', Bool.not_eq_false'] at hb))
      | (apply x_condS; (focus (simp only [go_sem, *, List.length_append]; (try rfl); done)); all_goals (intro hb; try simp only [Bool.not_eq_true', Bool.not_eq_false'] at hb))
      | (apply d_draw; (focus exact mixed); (focus ((simp only [List.size_toArray, List.length_cons, List.length_nil, Nat.reduceAdd]; try rfl); done)))
      | (apply d_done; (focus decide +kernel))
      | ((first | (apply d_take 0; (focus decide +kernel)) | (apply d_take 1; (focus decide +kernel)) | (apply d_take 2; (focus decide +kernel)) | (apply d_take 3; (focus decide +kernel)) | (apply d_take 4; (focus decide +kernel)) | (apply d_take 5; (focus decide +kernel)) | (apply d_take 6; (focus decide +kernel)) | (apply d_take 7; (focus decide +kernel)) | (apply d_take 8; (focus decide +kernel)) | (apply d_take 9; (focus decide +kernel)) | (apply d_take 10; (focus decide +kernel)) | (apply d_take 11; (focus decide +kernel)) | (apply d_take 12; (focus decide +kernel)) | (apply d_take 13; (focus decide +kernel)) | (apply d_take 14; (focus decide +kernel)) | (apply d_take 15; (focus decide +kernel)) | (apply d_take 16; (focus decide +kernel)) | (apply d_take 17; (focus decide +kernel))); (focus (first | exact qds_FPost | exact qds_RPost | exact qds_YB | assumption)); (focus rfl); (iterate 3 (focus (simp only [go_sem, *, List.length_append]; (try rfl); done))); (focus rfl); (focus (simp only [go_sem, *, List.length_append]; (try rfl); done)); simp only [putA])
      | ((first | (apply d_unw 0; (focus decide +kernel)) | (apply d_unw 1; (focus decide +kernel)) | (apply d_unw 2; (focus decide +kernel)) | (apply d_unw 3; (focus decide +kernel)) | (apply d_unw 4; (focus decide +kernel)) | (apply d_unw 5; (focus decide +kernel)) | (apply d_unw 6; (focus decide +kernel)) | (apply d_unw 7; (focus decide +kernel)) | (apply d_unw 8; (focus decide +kernel)) | (apply d_unw 9; (focus decide +kernel)) | (apply d_unw 10; (focus decide +kernel)) | (apply d_unw 11; (focus decide +kernel)) | (apply d_unw 12; (focus decide +kernel)) | (apply d_unw 13; (focus decide +kernel)) | (apply d_unw 14; (focus decide +kernel)) | (apply d_unw 15; (focus decide +kernel)) | (apply d_unw 16; (focus decide +kernel)) | (apply d_unw 17; (focus decide +kernel))); (focus (first | exact qds_FPost | exact qds_RPost | exact qds_YB | assumption)); (focus rfl); (iterate 2 (focus (simp only [go_sem, *, List.length_append]; (try rfl); done))); (focus rfl); simp only [putA])
      | (first | (apply d_one 0; (focus decide +kernel)) | (apply d_one 1; (focus decide +kernel)) | (apply d_one 2; (focus decide +kernel)) | (apply d_one 3; (focus decide +kernel)) | (apply d_one 4; (focus decide +kernel)) | (apply d_one 5; (focus decide +kernel)) | (apply d_one 6; (focus decide +kernel)) | (apply d_one 7; (focus decide +kernel)) | (apply d_one 8; (focus decide +kernel)) | (apply d_one 9; (focus decide +kernel)) | (apply d_one 10; (focus decide +kernel)) | (apply d_one 11; (focus decide +kernel)) | (apply d_one 12; (focus decide +kernel)) | (apply d_one 13; (focus decide +kernel)) | (apply d_one 14; (focus decide +kernel)) | (apply d_one 15; (focus decide +kernel)) | (apply d_one 16; (focus decide +kernel)) | (apply d_one 17; (focus decide +kernel)))
      | (apply o_step; (iterate 3 (focus (simp only [go_sem, *, List.length_append]; (try rfl); done))); (focus rfl); simp only [putA])
      | (apply o_unw; (iterate 2 (focus (simp only [go_sem, *, List.length_append]; (try rfl); done))); (focus rfl); simp only [putA])
      | apply pr_nil | apply pr_same | apply pr_go | apply pl_nil | apply pl_none | (apply pl_skip; (focus decide +kernel)) | (apply pl_one; (focus (simp only [go_sem, *, List.length_append]; (try rfl); done)))
      | (apply o_call []; (iterate 2 (focus (simp only [go_sem, *, List.length_append]; (try rfl); done))); (focus rfl); (focus (simp only [go_sem, *, List.length_append]; (try rfl); done)); (focus rfl); (iterate 2 (focus (simp only [go_sem, *, List.length_append]; (try rfl); done))); (first | (apply hck.out) | (apply d1.out) | (apply d2.out)); simp only [afterOp, putA])
    refine x_ind (fun (i : Nat) env S' => i ≤ r.items.length ∧ env 1000000 = .dfr [] ∧ env 1 = .own S.length 0 ∧ env 4 = .str (bodyS r i) ∧ env 5 = .own (S.length + 1) 0 ∧ env 6 = .int .i64 (i : Int) ∧
      S' = S ++ [Blk.cells [.int .i64 r.cols, .int .i64 r.rows, .sval false (r.items.map It.av)], .cells [.str [], .str [111], .str [105], .str [114], .str [109]]]) (fun i => r.items.length - i) 0 ?_ ?_
    · exact ⟨Nat.zero_le _, by (simp only [go_sem, *]; try rfl), by (simp only [go_sem, *]; try rfl), by rw [E0.out]; (simp only [go_sem, *, List.cons_append, List.nil_append]; try rfl), by (simp only [go_sem, *]; try rfl), by (simp only [go_sem, *]; try rfl), rfl⟩
    · clear d1 d2 hck j1 j2 j3 j4 E0
      rintro i env S' ⟨hi, e0, e1, e4, e5, e6, rfl⟩ IH
      have HI := Lib.hid IH
      clear IH
      have hbl := hbl.out i hi
      have hlen := Hlen.out
      by_cases hlt : i < r.items.length
      · obtain ⟨⟨xw, xk, xc, xr, xt⟩, hx⟩ : ∃ x, r.items[i]? = some x := ⟨_, List.getElem?_eq_getElem hlt⟩
        have h1 : decide ((i : Int) < (r.items.length : Int)) = true := by simpa using hlt
        have hw1 : IntKind.i64.wrap ((i : Int) + 1) = (i : Int) + 1 := IntWalk.i64_in _ (by omega)
        have Hsu := Lib.hid (body_step hx)
        have hit := Hit.out _ (List.mem_of_getElem? hx)
        have Hil := Lib.hid hlt
        have htx := item_txt hit
        obtain ⟨hw, hk, h3, hn3⟩ := item_kind hit
        dsimp only at htx hw hk h3 hn3
        obtain ⟨bs, hbs⟩ : ∃ bs, bodyS r i = bs := ⟨_, rfl⟩
        rw [hbs] at hbl Hsu e4
        have dw := fun S' => digitsI w0 S' xw (by omega) (by omega)
        have lw := Lib.itoa_length_le xw (by omega) (by omega)
        have dq := fun S' => refQuoted w0 S' xt (by omega)
        have lq := flat_len xt
        have lq2 : (quoteS xt).length ≤ 20000 := by unfold quoteS; simp only [List.length_cons, List.length_append, List.length_nil]; omega
        have Hln : lineS ⟨xw, xk, xc, xr, xt⟩ = Lib.itoa xw ++ [32] ++ [letter xk] ++ [32] ++ (if xk = 3 then Lib.itoa xc ++ [32] ++ Lib.itoa xr else quoteS xt) ++ [10] := by unfold lineS twoS; rfl
        obtain ⟨iw, hiw⟩ : ∃ iw, Lib.itoa xw = iw := ⟨_, rfl⟩
        obtain ⟨q, hq⟩ : ∃ q, quoteS xt = q := ⟨_, rfl⟩
        rw [hiw] at dw lw Hln
        rw [hq] at dq lq2 Hln
        have j1 : bs.length + iw.length ≤ 9223372036854775807 := by omega
        have j2 : (bs ++ iw : List UInt8).length + 1 ≤ 9223372036854775807 := by simp only [List.length_append]; omega
        have j3 : (bs ++ iw ++ [32] : List UInt8).length + 1 ≤ 9223372036854775807 := by simp only [List.length_append, List.length_cons, List.length_nil]; omega
        have j4 : (bs ++ iw ++ [32] ++ [32] : List UInt8).length + 1 ≤ 9223372036854775807 := by simp only [List.length_append, List.length_cons, List.length_nil]; omega
        have j5 : (bs ++ iw ++ [32] ++ [32] ++ [32] : List UInt8).length + q.length ≤ 9223372036854775807 := by simp only [List.length_append, List.length_cons, List.length_nil]; omega
        have j6 : (bs ++ iw ++ [32] ++ [32] ++ [32] ++ q : List UInt8).length + 1 ≤ 9223372036854775807 := by simp only [List.length_append, List.length_cons, List.length_nil]; omega
        simp only [List.cons_append, List.nil_append, List.length_cons, List.length_append, List.length_nil, Nat.zero_add] at j2 j3 j4 j5 j6
        replace dw := Lib.hid dw
        replace dq := Lib.hid dq
        by_cases k3 : xk = 3
        · subst k3
          have hs := size_bd (h3 rfl).1
          have dc := fun S' => digitsI w0 S' xc (by omega) (by omega)
          have dr := fun S' => digitsI w0 S' xr (by omega) (by omega)
          have lc := Lib.itoa_length_le xc (by omega) (by omega)
          have lr := Lib.itoa_length_le xr (by omega) (by omega)
          rw [if_pos rfl] at Hln
          obtain ⟨ic, hic⟩ : ∃ ic, Lib.itoa xc = ic := ⟨_, rfl⟩
          obtain ⟨ir, hir⟩ : ∃ ir, Lib.itoa xr = ir := ⟨_, rfl⟩
          rw [hic] at dc lc Hln
          rw [hir] at dr lr Hln
          have m1 : (bs ++ iw ++ [32] ++ [32] ++ [32] : List UInt8).length + ic.length ≤ 9223372036854775807 := by simp only [List.length_append, List.length_cons, List.length_nil]; omega
          have m2 : (bs ++ iw ++ [32] ++ [32] ++ [32] ++ ic : List UInt8).length + 1 ≤ 9223372036854775807 := by simp only [List.length_append, List.length_cons, List.length_nil]; omega
          have m3 : (bs ++ iw ++ [32] ++ [32] ++ [32] ++ ic ++ [32] : List UInt8).length + ir.length ≤ 9223372036854775807 := by simp only [List.length_append, List.length_cons, List.length_nil]; omega
          have m4 : (bs ++ iw ++ [32] ++ [32] ++ [32] ++ ic ++ [32] ++ ir : List UInt8).length + 1 ≤ 9223372036854775807 := by simp only [List.length_append, List.length_cons, List.length_nil]; omega
          simp only [List.cons_append, List.nil_append, List.length_cons, List.length_append, List.length_nil, Nat.zero_add] at m1 m2 m3 m4
          replace dc := Lib.hid dc
          replace dr := Lib.hid dr
          replace Hln := Lib.hid Hln
          clear hlt hi hbl hlen hit hw hk h3 hn3 htx hbs lw lq lq2 hiw hq hs lc lr hic hir j5 j6 dq
          repeat' first
            | apply x_seq | apply x_skip | apply x_block | apply x_exit | apply x_ret | apply x_ops_nil | apply p_blk | apply p_exit_it | apply p_exit_hit | apply p_ret_it | apply p_ret_blk | apply p_panic_it | apply p_panic_blk | apply p_end
            | (apply p_exit_miss; (focus rfl))
            | (apply x_region; simp only [List.toList_toArray])
            | (apply x_step0; (focus rfl); (focus (simp only [go_sem, *, It.av, List.length_append, List.length_cons, List.length_nil]; (try rfl); done)); (focus rfl); simp only [putA])
            | (apply x_callA []; (focus (simp only [go_sem, *, It.av, List.length_append, List.length_cons, List.length_nil]; (try rfl); done)); (focus rfl); (focus (simp only [go_sem, *, It.av, List.length_append, List.length_cons, List.length_nil]; (try rfl); done)); (focus rfl); (iterate 2 (focus (simp only [go_sem, *, It.av, List.length_append, List.length_cons, List.length_nil]; (try rfl); done))); (first | (apply dw.out) | (apply dc.out) | (apply dr.out)); simp only [afterCall, putA])
            | (apply x_panic; (focus (simp only [go_sem, *, It.av, List.length_append, List.length_cons, List.length_nil]; (try rfl); done)); (focus rfl); (focus (simp only [go_sem, *, It.av, List.length_append, List.length_cons, List.length_nil]; (try rfl); done)))
            | (apply x_step; (iterate 2 (focus (simp only [go_sem, *, It.av, List.length_append, List.length_cons, List.length_nil]; (try rfl); done))); (focus rfl); simp only [putA])
            | (apply x_unwanted; (focus (simp only [go_sem, *, It.av, List.length_append, List.length_cons, List.length_nil]; (try rfl); done)); (focus rfl); simp only [putA])
            | (apply x_condT; (focus (simp only [go_sem, *, It.av, List.length_append, List.length_cons, List.length_nil]; (try rfl); done)))
            | (apply x_condF; (focus (simp only [go_sem, *, It.av, List.length_append, List.length_cons, List.length_nil]; (try rfl); done)))
            | (apply x_guardS; (focus rfl); (fail_if_success (focus (show _ = some true; (focus (simp only [go_sem, *, It.av, List.length_append, List.length_cons, List.length_nil]; (try rfl); done))))); (focus (simp only [go_sem, *, It.av, List.length_append, List.length_cons, List.length_nil]; (try rfl); done)); all_goals (intro hb; try simp only [Bool.not_eq_true', Bool.not_eq_false'] at hb))
            | (apply x_condS; (focus (simp only [go_sem, *, It.av, List.length_append, List.length_cons, List.length_nil]; (try rfl); done)); all_goals (intro hb; try simp only [Bool.not_eq_true', Bool.not_eq_false'] at hb))
            | (apply d_draw; (focus exact mixed); (focus ((simp only [List.size_toArray, List.length_cons, List.length_nil, Nat.reduceAdd]; try rfl); done)))
            | (apply d_done; (focus decide +kernel))
            | ((first | (apply d_take 0; (focus decide +kernel)) | (apply d_take 1; (focus decide +kernel)) | (apply d_take 2; (focus decide +kernel)) | (apply d_take 3; (focus decide +kernel)) | (apply d_take 4; (focus decide +kernel)) | (apply d_take 5; (focus decide +kernel)) | (apply d_take 6; (focus decide +kernel)) | (apply d_take 7; (focus decide +kernel)) | (apply d_take 8; (focus decide +kernel)) | (apply d_take 9; (focus decide +kernel)) | (apply d_take 10; (focus decide +kernel)) | (apply d_take 11; (focus decide +kernel)) | (apply d_take 12; (focus decide +kernel)) | (apply d_take 13; (focus decide +kernel)) | (apply d_take 14; (focus decide +kernel)) | (apply d_take 15; (focus decide +kernel)) | (apply d_take 16; (focus decide +kernel)) | (apply d_take 17; (focus decide +kernel))); (focus (first | exact qds_FPost | exact qds_RPost | exact qds_YB | assumption)); (focus rfl); (iterate 3 (focus (simp only [go_sem, *, It.av, List.length_append, List.length_cons, List.length_nil]; (try rfl); done))); (focus rfl); (focus (simp only [go_sem, *, It.av, List.length_append, List.length_cons, List.length_nil]; (try rfl); done)); simp only [putA])
            | ((first | (apply d_unw 0; (focus decide +kernel)) | (apply d_unw 1; (focus decide +kernel)) | (apply d_unw 2; (focus decide +kernel)) | (apply d_unw 3; (focus decide +kernel)) | (apply d_unw 4; (focus decide +kernel)) | (apply d_unw 5; (focus decide +kernel)) | (apply d_unw 6; (focus decide +kernel)) | (apply d_unw 7; (focus decide +kernel)) | (apply d_unw 8; (focus decide +kernel)) | (apply d_unw 9; (focus decide +kernel)) | (apply d_unw 10; (focus decide +kernel)) | (apply d_unw 11; (focus decide +kernel)) | (apply d_unw 12; (focus decide +kernel)) | (apply d_unw 13; (focus decide +kernel)) | (apply d_unw 14; (focus decide +kernel)) | (apply d_unw 15; (focus decide +kernel)) | (apply d_unw 16; (focus decide +kernel)) | (apply d_unw 17; (focus decide +kernel))); (focus (first | exact qds_FPost | exact qds_RPost | exact qds_YB | assumption)); (focus rfl); (iterate 2 (focus (simp only [go_sem, *, It.av, List.length_append, List.length_cons, List.length_nil]; (try rfl); done))); (focus rfl); simp only [putA])
            | (first | (apply d_one 0; (focus decide +kernel)) | (apply d_one 1; (focus decide +kernel)) | (apply d_one 2; (focus decide +kernel)) | (apply d_one 3; (focus decide +kernel)) | (apply d_one 4; (focus decide +kernel)) | (apply d_one 5; (focus decide +kernel)) | (apply d_one 6; (focus decide +kernel)) | (apply d_one 7; (focus decide +kernel)) | (apply d_one 8; (focus decide +kernel)) | (apply d_one 9; (focus decide +kernel)) | (apply d_one 10; (focus decide +kernel)) | (apply d_one 11; (focus decide +kernel)) | (apply d_one 12; (focus decide +kernel)) | (apply d_one 13; (focus decide +kernel)) | (apply d_one 14; (focus decide +kernel)) | (apply d_one 15; (focus decide +kernel)) | (apply d_one 16; (focus decide +kernel)) | (apply d_one 17; (focus decide +kernel)))
            | (apply o_step; (iterate 3 (focus (simp only [go_sem, *, It.av, List.length_append, List.length_cons, List.length_nil]; (try rfl); done))); (focus rfl); simp only [putA])
            | (apply o_unw; (iterate 2 (focus (simp only [go_sem, *, It.av, List.length_append, List.length_cons, List.length_nil]; (try rfl); done))); (focus rfl); simp only [putA])
            | apply pr_nil | apply pr_same | apply pr_go | apply pl_nil | apply pl_none | (apply pl_skip; (focus decide +kernel)) | (apply pl_one; (focus (simp only [go_sem, *, It.av, List.length_append, List.length_cons, List.length_nil]; (try rfl); done)))
            | (apply o_call []; (iterate 2 (focus (simp only [go_sem, *, It.av, List.length_append, List.length_cons, List.length_nil]; (try rfl); done))); (focus rfl); (focus (simp only [go_sem, *, It.av, List.length_append, List.length_cons, List.length_nil]; (try rfl); done)); (focus rfl); (iterate 2 (focus (simp only [go_sem, *, It.av, List.length_append, List.length_cons, List.length_nil]; (try rfl); done))); (first | (apply dw.out) | (apply dc.out) | (apply dr.out)); simp only [afterOp, putA])
          refine x_keep hO 2 [1, 4, 5, 6] rfl (by (simp only [go_sem, *]; try rfl)) (by (simp only [go_sem, *]; try rfl)) (by (simp only [go_sem, *]; try rfl)) ?_
          refine HI.out (i + 1) _ _ (by have := Hil.out; omega) ⟨Hil.out, ?_, ?_, ?_, ?_, ?_, rfl⟩
          · (simp only [go_sem, *]; try rfl)
          · (simp only [go_sem, *]; try rfl)
          · rw [Hsu.out, Hln.out]; (simp only [go_sem, *, letter, List.append_assoc, List.cons_append, List.nil_append]; try rfl)
          · (simp only [go_sem, *]; try rfl)
          · (simp only [go_sem, *]; try rfl)
        · rw [if_neg k3] at Hln
          replace Hln := Lib.hid Hln
          have hk2 : xk = 1 ∨ xk = 2 ∨ xk = 4 := by omega
          clear hk hlt hi hbl hlen hit hw h3 hn3 htx hbs lw lq lq2 hiw hq
          rcases hk2 with rfl | rfl | rfl
          all_goals
            clear k3
            repeat' first
              | apply x_seq | apply x_skip | apply x_block | apply x_exit | apply x_ret | apply x_ops_nil | apply p_blk | apply p_exit_it | apply p_exit_hit | apply p_ret_it | apply p_ret_blk | apply p_panic_it | apply p_panic_blk | apply p_end
              | (apply p_exit_miss; (focus rfl))
              | (apply x_region; simp only [List.toList_toArray])
              | (apply x_step0; (focus rfl); (focus (simp only [go_sem, *, It.av, List.length_append, List.length_cons, List.length_nil]; (try rfl); done)); (focus rfl); simp only [putA])
              | (apply x_callA []; (focus (simp only [go_sem, *, It.av, List.length_append, List.length_cons, List.length_nil]; (try rfl); done)); (focus rfl); (focus (simp only [go_sem, *, It.av, List.length_append, List.length_cons, List.length_nil]; (try rfl); done)); (focus rfl); (iterate 2 (focus (simp only [go_sem, *, It.av, List.length_append, List.length_cons, List.length_nil]; (try rfl); done))); (first | (apply dw.out) | (apply dq.out)); simp only [afterCall, putA])
              | (apply x_panic; (focus (simp only [go_sem, *, It.av, List.length_append, List.length_cons, List.length_nil]; (try rfl); done)); (focus rfl); (focus (simp only [go_sem, *, It.av, List.length_append, List.length_cons, List.length_nil]; (try rfl); done)))
              | (apply x_step; (iterate 2 (focus (simp only [go_sem, *, It.av, List.length_append, List.length_cons, List.length_nil]; (try rfl); done))); (focus rfl); simp only [putA])
              | (apply x_unwanted; (focus (simp only [go_sem, *, It.av, List.length_append, List.length_cons, List.length_nil]; (try rfl); done)); (focus rfl); simp only [putA])
              | (apply x_condT; (focus (simp only [go_sem, *, It.av, List.length_append, List.length_cons, List.length_nil]; (try rfl); done)))
              | (apply x_condF; (focus (simp only [go_sem, *, It.av, List.length_append, List.length_cons, List.length_nil]; (try rfl); done)))
              | (apply x_guardS; (focus rfl); (fail_if_success (focus (show _ = some true; (focus (simp only [go_sem, *, It.av, List.length_append, List.length_cons, List.length_nil]; (try rfl); done))))); (focus (simp only [go_sem, *, It.av, List.length_append, List.length_cons, List.length_nil]; (try rfl); done)); all_goals (intro hb; try simp only [Bool.not_eq_true', Bool.not_eq_false'] at hb))
              | (apply x_condS; (focus (simp only [go_sem, *, It.av, List.length_append, List.length_cons, List.length_nil]; (try rfl); done)); all_goals (intro hb; try simp only [Bool.not_eq_true', Bool.not_eq_false'] at hb))
              | (apply d_draw; (focus exact mixed); (focus ((simp only [List.size_toArray, List.length_cons, List.length_nil, Nat.reduceAdd]; try rfl); done)))
              | (apply d_done; (focus decide +kernel))
              | ((first | (apply d_take 0; (focus decide +kernel)) | (apply d_take 1; (focus decide +kernel)) | (apply d_take 2; (focus decide +kernel)) | (apply d_take 3; (focus decide +kernel)) | (apply d_take 4; (focus decide +kernel)) | (apply d_take 5; (focus decide +kernel)) | (apply d_take 6; (focus decide +kernel)) | (apply d_take 7; (focus decide +kernel)) | (apply d_take 8; (focus decide +kernel)) | (apply d_take 9; (focus decide +kernel)) | (apply d_take 10; (focus decide +kernel)) | (apply d_take 11; (focus decide +kernel)) | (apply d_take 12; (focus decide +kernel)) | (apply d_take 13; (focus decide +kernel)) | (apply d_take 14; (focus decide +kernel)) | (apply d_take 15; (focus decide +kernel)) | (apply d_take 16; (focus decide +kernel)) | (apply d_take 17; (focus decide +kernel))); (focus (first | exact qds_FPost | exact qds_RPost | exact qds_YB | assumption)); (focus rfl); (iterate 3 (focus (simp only [go_sem, *, It.av, List.length_append, List.length_cons, List.length_nil]; (try rfl); done))); (focus rfl); (focus (simp only [go_sem, *, It.av, List.length_append, List.length_cons, List.length_nil]; (try rfl); done)); simp only [putA])
              | ((first | (apply d_unw 0; (focus decide +kernel)) | (apply d_unw 1; (focus decide +kernel)) | (apply d_unw 2; (focus decide +kernel)) | (apply d_unw 3; (focus decide +kernel)) | (apply d_unw 4; (focus decide +kernel)) | (apply d_unw 5; (focus decide +kernel)) | (apply d_unw 6; (focus decide +kernel)) | (apply d_unw 7; (focus decide +kernel)) | (apply d_unw 8; (focus decide +kernel)) | (apply d_unw 9; (focus decide +kernel)) | (apply d_unw 10; (focus decide +kernel)) | (apply d_unw 11; (focus decide +kernel)) | (apply d_unw 12; (focus decide +kernel)) | (apply d_unw 13; (focus decide +kernel)) | (apply d_unw 14; (focus decide +kernel)) | (apply d_unw 15; (focus decide +kernel)) | (apply d_unw 16; (focus decide +kernel)) | (apply d_unw 17; (focus decide +kernel))); (focus (first | exact qds_FPost | exact qds_RPost | exact qds_YB | assumption)); (focus rfl); (iterate 2 (focus (simp only [go_sem, *, It.av, List.length_append, List.length_cons, List.length_nil]; (try rfl); done))); (focus rfl); simp only [putA])
              | (first | (apply d_one 0; (focus decide +kernel)) | (apply d_one 1; (focus decide +kernel)) | (apply d_one 2; (focus decide +kernel)) | (apply d_one 3; (focus decide +kernel)) | (apply d_one 4; (focus decide +kernel)) | (apply d_one 5; (focus decide +kernel)) | (apply d_one 6; (focus decide +kernel)) | (apply d_one 7; (focus decide +kernel)) | (apply d_one 8; (focus decide +kernel)) | (apply d_one 9; (focus decide +kernel)) | (apply d_one 10; (focus decide +kernel)) | (apply d_one 11; (focus decide +kernel)) | (apply d_one 12; (focus decide +kernel)) | (apply d_one 13; (focus decide +kernel)) | (apply d_one 14; (focus decide +kernel)) | (apply d_one 15; (focus decide +kernel)) | (apply d_one 16; (focus decide +kernel)) | (apply d_one 17; (focus decide +kernel)))
              | (apply o_step; (iterate 3 (focus (simp only [go_sem, *, It.av, List.length_append, List.length_cons, List.length_nil]; (try rfl); done))); (focus rfl); simp only [putA])
              | (apply o_unw; (iterate 2 (focus (simp only [go_sem, *, It.av, List.length_append, List.length_cons, List.length_nil]; (try rfl); done))); (focus rfl); simp only [putA])
              | apply pr_nil | apply pr_same | apply pr_go | apply pl_nil | apply pl_none | (apply pl_skip; (focus decide +kernel)) | (apply pl_one; (focus (simp only [go_sem, *, It.av, List.length_append, List.length_cons, List.length_nil]; (try rfl); done)))
              | (apply o_call []; (iterate 2 (focus (simp only [go_sem, *, It.av, List.length_append, List.length_cons, List.length_nil]; (try rfl); done))); (focus rfl); (focus (simp only [go_sem, *, It.av, List.length_append, List.length_cons, List.length_nil]; (try rfl); done)); (focus rfl); (iterate 2 (focus (simp only [go_sem, *, It.av, List.length_append, List.length_cons, List.length_nil]; (try rfl); done))); (first | (apply dw.out) | (apply dq.out)); simp only [afterOp, putA])
            refine x_keep hO 2 [1, 4, 5, 6] rfl (by (simp only [go_sem, *]; try rfl)) (by (simp only [go_sem, *]; try rfl)) (by (simp only [go_sem, *]; try rfl)) ?_
            refine HI.out (i + 1) _ _ (by have := Hil.out; omega) ⟨Hil.out, ?_, ?_, ?_, ?_, ?_, rfl⟩
            · (simp only [go_sem, *]; try rfl)
            · (simp only [go_sem, *]; try rfl)
            · rw [Hsu.out, Hln.out]; (simp only [go_sem, *, letter, List.append_assoc, List.cons_append, List.nil_append]; try rfl)
            · (simp only [go_sem, *]; try rfl)
            · (simp only [go_sem, *]; try rfl)
      · have hE : i = r.items.length := by omega
        subst hE
        have h1 : decide ((r.items.length : Int) < (r.items.length : Int)) = false := by simp
        unfold printS at h
        clear HI hi hlt hbl hlen Hit
        repeat' first
          | apply x_seq | apply x_skip | apply x_block | apply x_exit | apply x_ret | apply x_ops_nil | apply p_blk | apply p_exit_it | apply p_exit_hit | apply p_ret_it | apply p_ret_blk | apply p_panic_it | apply p_panic_blk | apply p_end
          | (apply p_exit_miss; (focus rfl))
          | (apply x_region; simp only [List.toList_toArray])
          | (apply x_step0; (focus rfl); (focus (simp only [go_sem, *]; (try rfl); done)); (focus rfl); simp only [putA])
          | (apply x_panic; (focus (simp only [go_sem, *]; (try rfl); done)); (focus rfl); (focus (simp only [go_sem, *]; (try rfl); done)))
          | (apply x_step; (iterate 2 (focus (simp only [go_sem, *]; (try rfl); done))); (focus rfl); simp only [putA])
          | (apply x_unwanted; (focus (simp only [go_sem, *]; (try rfl); done)); (focus rfl); simp only [putA])
          | (apply x_condT; (focus (simp only [go_sem, *]; (try rfl); done)))
          | (apply x_condF; (focus (simp only [go_sem, *]; (try rfl); done)))
          | (apply x_guardS; (focus rfl); (fail_if_success (focus (show _ = some true; (focus (simp only [go_sem, *]; (try rfl); done))))); (focus (simp only [go_sem, *]; (try rfl); done)); all_goals (intro hb; try simp only [Bool.not_eq_true', Bool.not_eq_false'] at hb))
          | (apply x_condS; (focus (simp only [go_sem, *]; (try rfl); done)); all_goals (intro hb; try simp only [Bool.not_eq_true', Bool.not_eq_false'] at hb))
        (apply f_ret; iterate 7 (focus (simp only [go_sem, *, Tryz.results10]; (try rfl); done)))
        exact h
end Go.Proofs.YtnndmokndgnidaaGreatDoor
namespace Go.Proofs.YtnndmokndgnidaaGreatDoor
open Go Go.Fen
set_option linter.unusedSimpArgs false
set_option linter.unusedVariables false
attribute [local irreducible] RunX WP ACall AnyP OpA ProtL
set_option maxRecDepth 8000
set_option maxHeartbeats 2000000 in
theorem eqItems (w0 : World) (S : List Blk) (a b : List It) (ha : (a.length : Int) < 9223372036854775807) (R : AOut → List Blk → Prop) (h : R (.ret (.bool (decide (a = b)))) S) :
    ACall Tryz.prog w0 45 [.sval false (a.map It.av), .sval false (b.map It.av)] S R := by
  by_cases h3 : a.length = b.length
  · have e3 : ((a.length : Int) != (b.length : Int)) = false := by simp [h3]
    have H3 := Lib.hid h3
    clear h3
    refine enter Tryz.func45 rfl (by decide +kernel) (by rw [Tryz.ntmps45]; simp) (by rw [Tryz.ntmps45]; decide) (fun hO => ?_); rw [Tryz.ntmps45]
    repeat' first
      | apply x_seq | apply x_skip | apply x_block | apply x_exit | apply x_ret | apply x_ops_nil | apply p_blk | apply p_exit_it | apply p_exit_hit | apply p_ret_it | apply p_ret_blk | apply p_panic_it | apply p_panic_blk | apply p_end
      | (apply p_exit_miss; (focus rfl))
      | (apply x_region; simp only [List.toList_toArray])
      | (apply x_step0; (focus rfl); (focus (simp only [go_sem, *]; (try rfl); done)); (focus rfl); simp only [putA])
      | (apply x_panic; (focus (simp only [go_sem, *]; (try rfl); done)); (focus rfl); (focus (simp only [go_sem, *]; (try rfl); done)))
      | (apply x_step; (iterate 2 (focus (simp only [go_sem, *]; (try rfl); done))); (focus rfl); simp only [putA])
      | (apply x_unwanted; (focus (simp only [go_sem, *]; (try rfl); done)); (focus rfl); simp only [putA])
      | (apply x_condT; (focus (simp only [go_sem, *]; (try rfl); done)))
      | (apply x_condF; (focus (simp only [go_sem, *]; (try rfl); done)))
      | (apply x_guardS; (focus rfl); (fail_if_success (focus (show _ = some true; (focus (simp only [go_sem, *]; (try rfl); done))))); (focus (simp only [go_sem, *]; (try rfl); done)); all_goals (intro hb; try simp only [Bool.not_eq_true', Bool.not_eq_false'] at hb))
      | (apply x_condS; (focus (simp only [go_sem, *]; (try rfl); done)); all_goals (intro hb; try simp only [Bool.not_eq_true', Bool.not_eq_false'] at hb))
    refine x_ind (fun (i : Nat) env S' => i ≤ a.length ∧ env 1000000 = .dfr [] ∧ env 0 = .sval false (a.map It.av) ∧ env 1 = .sval false (b.map It.av) ∧ env 12 = .int .i64 a.length ∧ env 13 = .int .i64 (i : Int) ∧ S' = S ∧
      ∀ j, j < i → a[j]? = b[j]?) (fun i => a.length - i) 0 ?_ ?_
    · exact ⟨Nat.zero_le _, by (simp only [go_sem, *]; try rfl), by (simp only [go_sem, *]; try rfl), by (simp only [go_sem, *]; try rfl), by (simp only [go_sem, *]; try rfl), by (simp only [go_sem, *]; try rfl), rfl, by omega⟩
    · rintro i env S' ⟨hi, e0, f0, f1, f12, f13, rfl, hall⟩ IH
      have HI := Lib.hid IH
      have Hall := Lib.hid hall
      clear IH hall
      by_cases hlt : i < a.length
      · obtain ⟨x, hx⟩ : ∃ x, a[i]? = some x := ⟨_, List.getElem?_eq_getElem hlt⟩
        obtain ⟨y, hy⟩ : ∃ y, b[i]? = some y := ⟨_, List.getElem?_eq_getElem (by have := H3.out; omega)⟩
        have h1 : decide ((i : Int) < (a.length : Int)) = true := by simpa using hlt
        have hw : IntKind.i64.wrap ((i : Int) + 1) = (i : Int) + 1 := IntWalk.i64_in _ (by omega)
        clear hlt hi ha
        repeat' first
          | apply x_seq | apply x_skip | apply x_block | apply x_exit | apply x_ret | apply x_ops_nil | apply p_blk | apply p_exit_it | apply p_exit_hit | apply p_ret_it | apply p_ret_blk | apply p_panic_it | apply p_panic_blk | apply p_end
          | (apply p_exit_miss; (focus rfl))
          | (apply x_region; simp only [List.toList_toArray])
          | (apply x_step0; (focus rfl); (focus (simp only [go_sem, *, It.av]; (try rfl); done)); (focus rfl); simp only [putA])
          | (apply x_panic; (focus (simp only [go_sem, *, It.av]; (try rfl); done)); (focus rfl); (focus (simp only [go_sem, *, It.av]; (try rfl); done)))
          | (apply x_step; (iterate 2 (focus (simp only [go_sem, *, It.av]; (try rfl); done))); (focus rfl); simp only [putA])
          | (apply x_unwanted; (focus (simp only [go_sem, *, It.av]; (try rfl); done)); (focus rfl); simp only [putA])
          | (apply x_condT; (focus (simp only [go_sem, *, It.av]; (try rfl); done)))
          | (apply x_condF; (focus (simp only [go_sem, *, It.av]; (try rfl); done)))
          | (apply x_guardS; (focus rfl); (fail_if_success (focus (show _ = some true; (focus (simp only [go_sem, *, It.av]; (try rfl); done))))); (focus (simp only [go_sem, *, It.av]; (try rfl); done)); all_goals (intro hb; try simp only [Bool.not_eq_true', Bool.not_eq_false'] at hb))
          | (apply x_condS; (focus (simp only [go_sem, *, It.av]; (try rfl); done)); all_goals (intro hb; try simp only [Bool.not_eq_true', Bool.not_eq_false'] at hb))
          | (apply d_draw; (focus exact mixed); (focus ((simp only [List.size_toArray, List.length_cons, List.length_nil, Nat.reduceAdd]; try rfl); done)))
          | (apply d_done; (focus decide +kernel))
          | ((first | (apply d_take 0; (focus decide +kernel)) | (apply d_take 1; (focus decide +kernel)) | (apply d_take 2; (focus decide +kernel)) | (apply d_take 3; (focus decide +kernel)) | (apply d_take 4; (focus decide +kernel)) | (apply d_take 5; (focus decide +kernel)) | (apply d_take 6; (focus decide +kernel)) | (apply d_take 7; (focus decide +kernel)) | (apply d_take 8; (focus decide +kernel)) | (apply d_take 9; (focus decide +kernel)) | (apply d_take 10; (focus decide +kernel)) | (apply d_take 11; (focus decide +kernel)) | (apply d_take 12; (focus decide +kernel)) | (apply d_take 13; (focus decide +kernel)) | (apply d_take 14; (focus decide +kernel)) | (apply d_take 15; (focus decide +kernel)) | (apply d_take 16; (focus decide +kernel)) | (apply d_take 17; (focus decide +kernel))); (focus (first | exact qds_FPost | exact qds_RPost | exact qds_YB | assumption)); (focus rfl); (iterate 3 (focus (simp only [go_sem, *, It.av]; (try rfl); done))); (focus rfl); (focus (simp only [go_sem, *, It.av]; (try rfl); done)); simp only [putA])
          | ((first | (apply d_unw 0; (focus decide +kernel)) | (apply d_unw 1; (focus decide +kernel)) | (apply d_unw 2; (focus decide +kernel)) | (apply d_unw 3; (focus decide +kernel)) | (apply d_unw 4; (focus decide +kernel)) | (apply d_unw 5; (focus decide +kernel)) | (apply d_unw 6; (focus decide +kernel)) | (apply d_unw 7; (focus decide +kernel)) | (apply d_unw 8; (focus decide +kernel)) | (apply d_unw 9; (focus decide +kernel)) | (apply d_unw 10; (focus decide +kernel)) | (apply d_unw 11; (focus decide +kernel)) | (apply d_unw 12; (focus decide +kernel)) | (apply d_unw 13; (focus decide +kernel)) | (apply d_unw 14; (focus decide +kernel)) | (apply d_unw 15; (focus decide +kernel)) | (apply d_unw 16; (focus decide +kernel)) | (apply d_unw 17; (focus decide +kernel))); (focus (first | exact qds_FPost | exact qds_RPost | exact qds_YB | assumption)); (focus rfl); (iterate 2 (focus (simp only [go_sem, *, It.av]; (try rfl); done))); (focus rfl); simp only [putA])
          | (first | (apply d_one 0; (focus decide +kernel)) | (apply d_one 1; (focus decide +kernel)) | (apply d_one 2; (focus decide +kernel)) | (apply d_one 3; (focus decide +kernel)) | (apply d_one 4; (focus decide +kernel)) | (apply d_one 5; (focus decide +kernel)) | (apply d_one 6; (focus decide +kernel)) | (apply d_one 7; (focus decide +kernel)) | (apply d_one 8; (focus decide +kernel)) | (apply d_one 9; (focus decide +kernel)) | (apply d_one 10; (focus decide +kernel)) | (apply d_one 11; (focus decide +kernel)) | (apply d_one 12; (focus decide +kernel)) | (apply d_one 13; (focus decide +kernel)) | (apply d_one 14; (focus decide +kernel)) | (apply d_one 15; (focus decide +kernel)) | (apply d_one 16; (focus decide +kernel)) | (apply d_one 17; (focus decide +kernel)))
          | (apply o_step; (iterate 3 (focus (simp only [go_sem, *, It.av]; (try rfl); done))); (focus rfl); simp only [putA])
          | (apply o_unw; (iterate 2 (focus (simp only [go_sem, *, It.av]; (try rfl); done))); (focus rfl); simp only [putA])
          | apply pr_nil | apply pr_same | apply pr_go | apply pl_nil | apply pl_none | (apply pl_skip; (focus decide +kernel)) | (apply pl_one; (focus (simp only [go_sem, *, It.av]; (try rfl); done)))
        · (apply f_ret; iterate 7 (focus (simp only [go_sem, *, Tryz.results45]; (try rfl); done)))
          have hf : decide (a = b) = false := by
            simp only [decide_eq_false_iff_not]
            rintro rfl
            rw [hx] at hy; cases hy
            simp at hb
          rw [hf] at h; exact h
        · have hxy : x = y := (itEq_iff x y).1 (by simpa [itEq] using hb)
          refine HI.out (i + 1) _ _ ?_ ⟨?_, ?_, ?_, ?_, ?_, ?_, rfl, ?_⟩
          · have := (List.getElem?_eq_some_iff.1 hx).1; omega
          · exact (List.getElem?_eq_some_iff.1 hx).1
          · (simp only [go_sem, *]; try rfl)
          · (simp only [go_sem, *]; try rfl)
          · (simp only [go_sem, *]; try rfl)
          · (simp only [go_sem, *]; try rfl)
          · (simp only [go_sem, *]; try rfl)
          · intro j hj
            by_cases hji : j = i
            · subst hji; rw [hx, hy, hxy]
            · exact Hall.out j (by omega)
      · have h1 : decide ((i : Int) < (a.length : Int)) = false := by simpa using hlt
        have ht : decide (a = b) = true := by
          simp only [decide_eq_true_eq]
          exact List.ext_getElem? fun j => by
            by_cases hj : j < i
            · exact Hall.out j hj
            · have := H3.out
              rw [List.getElem?_eq_none (by omega), List.getElem?_eq_none (by omega)]
        clear hlt
        repeat' first
          | apply x_seq | apply x_skip | apply x_block | apply x_exit | apply x_ret | apply x_ops_nil | apply p_blk | apply p_exit_it | apply p_exit_hit | apply p_ret_it | apply p_ret_blk | apply p_panic_it | apply p_panic_blk | apply p_end
          | (apply p_exit_miss; (focus rfl))
          | (apply x_region; simp only [List.toList_toArray])
          | (apply x_step0; (focus rfl); (focus (simp only [go_sem, *]; (try rfl); done)); (focus rfl); simp only [putA])
          | (apply x_panic; (focus (simp only [go_sem, *]; (try rfl); done)); (focus rfl); (focus (simp only [go_sem, *]; (try rfl); done)))
          | (apply x_step; (iterate 2 (focus (simp only [go_sem, *]; (try rfl); done))); (focus rfl); simp only [putA])
          | (apply x_unwanted; (focus (simp only [go_sem, *]; (try rfl); done)); (focus rfl); simp only [putA])
          | (apply x_condT; (focus (simp only [go_sem, *]; (try rfl); done)))
          | (apply x_condF; (focus (simp only [go_sem, *]; (try rfl); done)))
          | (apply x_guardS; (focus rfl); (fail_if_success (focus (show _ = some true; (focus (simp only [go_sem, *]; (try rfl); done))))); (focus (simp only [go_sem, *]; (try rfl); done)); all_goals (intro hb; try simp only [Bool.not_eq_true', Bool.not_eq_false'] at hb))
          | (apply x_condS; (focus (simp only [go_sem, *]; (try rfl); done)); all_goals (intro hb; try simp only [Bool.not_eq_true', Bool.not_eq_false'] at hb))
        (apply f_ret; iterate 7 (focus (simp only [go_sem, *, Tryz.results45]; (try rfl); done)))
        rw [ht] at h; exact h
  · have e3 : ((a.length : Int) != (b.length : Int)) = true := by simp only [bne_iff_ne, ne_eq, Int.natCast_inj]; exact h3
    have hf : decide (a = b) = false := by simp only [decide_eq_false_iff_not]; rintro rfl; exact h3 rfl
    rw [hf] at h
    clear h3
    refine enter Tryz.func45 rfl (by decide +kernel) (by rw [Tryz.ntmps45]; simp) (by rw [Tryz.ntmps45]; decide) (fun hO => ?_); rw [Tryz.ntmps45]
    repeat' first
      | apply x_seq | apply x_skip | apply x_block | apply x_exit | apply x_ret | apply x_ops_nil | apply p_blk | apply p_exit_it | apply p_exit_hit | apply p_ret_it | apply p_ret_blk | apply p_panic_it | apply p_panic_blk | apply p_end
      | (apply p_exit_miss; (focus rfl))
      | (apply x_region; simp only [List.toList_toArray])
      | (apply x_step0; (focus rfl); (focus (simp only [go_sem, *]; (try rfl); done)); (focus rfl); simp only [putA])
      | (apply x_panic; (focus (simp only [go_sem, *]; (try rfl); done)); (focus rfl); (focus (simp only [go_sem, *]; (try rfl); done)))
      | (apply x_step; (iterate 2 (focus (simp only [go_sem, *]; (try rfl); done))); (focus rfl); simp only [putA])
      | (apply x_unwanted; (focus (simp only [go_sem, *]; (try rfl); done)); (focus rfl); simp only [putA])
      | (apply x_condT; (focus (simp only [go_sem, *]; (try rfl); done)))
      | (apply x_condF; (focus (simp only [go_sem, *]; (try rfl); done)))
      | (apply x_guardS; (focus rfl); (fail_if_success (focus (show _ = some true; (focus (simp only [go_sem, *]; (try rfl); done))))); (focus (simp only [go_sem, *]; (try rfl); done)); all_goals (intro hb; try simp only [Bool.not_eq_true', Bool.not_eq_false'] at hb))
      | (apply x_condS; (focus (simp only [go_sem, *]; (try rfl); done)); all_goals (intro hb; try simp only [Bool.not_eq_true', Bool.not_eq_false'] at hb))
    (apply f_ret; iterate 7 (focus (simp only [go_sem, *, Tryz.results45]; (try rfl); done)))
    exact h
set_option maxHeartbeats 2000000 in
theorem same (w0 : World) (S : List Blk) (a b : Rec) (ha : (a.items.length : Int) < 9223372036854775807) (R : AOut → List Blk → Prop) (h : R (.ret (.bool (sameB a b))) S) :
    ACall Tryz.prog w0 15 [a.av, b.av] S R := by
  have he := fun S' => eqItems w0 S' a.items b.items ha
  have hs : sameB a b = (a.cols == b.cols && (a.rows == b.rows && decide (a.items = b.items))) := by
    unfold sameB
    cases a; cases b
    simp only [Rec.mk.injEq, Bool.decide_and]
    rfl
  rw [hs] at h
  unfold Rec.av
  cases h1 : (a.cols == b.cols) <;> cases h2 : (a.rows == b.rows)
  all_goals
    rw [h1, h2] at h
    simp only [Bool.and_true, Bool.and_false, Bool.false_and, Bool.true_and] at h
    clear hs
    refine enter Tryz.func15 rfl (by decide +kernel) (by rw [Tryz.ntmps15]; simp) (by rw [Tryz.ntmps15]; decide) (fun hO => ?_); rw [Tryz.ntmps15]
    repeat' first
      | apply x_seq | apply x_skip | apply x_block | apply x_exit | apply x_ret | apply x_ops_nil | apply p_blk | apply p_exit_it | apply p_exit_hit | apply p_ret_it | apply p_ret_blk | apply p_panic_it | apply p_panic_blk | apply p_end
      | (apply p_exit_miss; (focus rfl))
      | (apply x_region; simp only [List.toList_toArray])
      | (apply x_step0; (focus rfl); (focus (simp only [go_sem, *]; (try rfl); done)); (focus rfl); simp only [putA])
      | (apply x_callA []; (focus (simp only [go_sem, *]; (try rfl); done)); (focus rfl); (focus (simp only [go_sem, *]; (try rfl); done)); (focus rfl); (iterate 2 (focus (simp only [go_sem, *]; (try rfl); done))); (first | (apply he)); simp only [afterCall, putA])
      | (apply x_panic; (focus (simp only [go_sem, *]; (try rfl); done)); (focus rfl); (focus (simp only [go_sem, *]; (try rfl); done)))
      | (apply x_step; (iterate 2 (focus (simp only [go_sem, *]; (try rfl); done))); (focus rfl); simp only [putA])
      | (apply x_unwanted; (focus (simp only [go_sem, *]; (try rfl); done)); (focus rfl); simp only [putA])
      | (apply x_condT; (focus (simp only [go_sem, *]; (try rfl); done)))
      | (apply x_condF; (focus (simp only [go_sem, *]; (try rfl); done)))
      | (apply x_guardS; (focus rfl); (fail_if_success (focus (show _ = some true; (focus (simp only [go_sem, *]; (try rfl); done))))); (focus (simp only [go_sem, *]; (try rfl); done)); all_goals (intro hb; try simp only [Bool.not_eq_true', Bool.not_eq_false'] at hb))
      | (apply x_condS; (focus (simp only [go_sem, *]; (try rfl); done)); all_goals (intro hb; try simp only [Bool.not_eq_true', Bool.not_eq_false'] at hb))
    (apply f_ret; iterate 7 (focus (simp only [go_sem, *, Tryz.results15]; (try rfl); done)))
    exact h
set_option maxHeartbeats 2000000 in
theorem refUpto0 (w0 : World) (S : List Blk) (r : Rec) (t : Int) (hc : checkB r = false) (R : AOut → List Blk → Prop) (h : R (.ret (.tup [.int .i64 0, .int .i64 520])) S) :
    ACall Tryz.prog w0 18 [r.av, .int .i64 t] S R := by
  have hck := fun S' => refCheck w0 S' r
  simp only [hc, Bool.false_eq_true, if_false] at hck
  unfold Rec.av at hck ⊢
  refine enter Tryz.func18 rfl (by decide +kernel) (by rw [Tryz.ntmps18]; simp) (by rw [Tryz.ntmps18]; decide) (fun hO => ?_); rw [Tryz.ntmps18]
  repeat' first
    | apply x_seq | apply x_skip | apply x_block | apply x_exit | apply x_ret | apply x_ops_nil | apply p_blk | apply p_exit_it | apply p_exit_hit | apply p_ret_it | apply p_ret_blk | apply p_panic_it | apply p_panic_blk | apply p_end
    | (apply p_exit_miss; (focus rfl))
    | (apply x_region; simp only [List.toList_toArray])
    | (apply x_step0; (focus rfl); (focus (simp only [go_sem, *]; (try rfl); done)); (focus rfl); simp only [putA])
    | (apply x_callA []; (focus (simp only [go_sem, *]; (try rfl); done)); (focus rfl); (focus (simp only [go_sem, *]; (try rfl); done)); (focus rfl); (iterate 2 (focus (simp only [go_sem, *]; (try rfl); done))); (first | (apply hck)); simp only [afterCall, putA])
    | (apply x_panic; (focus (simp only [go_sem, *]; (try rfl); done)); (focus rfl); (focus (simp only [go_sem, *]; (try rfl); done)))
    | (apply x_step; (iterate 2 (focus (simp only [go_sem, *]; (try rfl); done))); (focus rfl); simp only [putA])
    | (apply x_unwanted; (focus (simp only [go_sem, *]; (try rfl); done)); (focus rfl); simp only [putA])
    | (apply x_condT; (focus (simp only [go_sem, *]; (try rfl); done)))
    | (apply x_condF; (focus (simp only [go_sem, *]; (try rfl); done)))
    | (apply x_guardS; (focus rfl); (fail_if_success (focus (show _ = some true; (focus (simp only [go_sem, *]; (try rfl); done))))); (focus (simp only [go_sem, *]; (try rfl); done)); all_goals (intro hb; try simp only [Bool.not_eq_true', Bool.not_eq_false'] at hb))
    | (apply x_condS; (focus (simp only [go_sem, *]; (try rfl); done)); all_goals (intro hb; try simp only [Bool.not_eq_true', Bool.not_eq_false'] at hb))
  (apply f_ret; iterate 7 (focus (simp only [go_sem, *, Tryz.results18]; (try rfl); done)))
  exact h
set_option maxHeartbeats 2000000 in
theorem upto0 (w0 : World) (S : List Blk) (r : Rec) (hm : (r.items.length : Int) < 9223372036854775807) (t : Int) (hc : checkB r = false) (R : AOut → List Blk → Prop) (h : R (.ret (.tup [.int .i64 0, .int .i64 520])) S) :
    ACall Tryz.prog w0 17 [r.av, .int .i64 t] S R := by
  have hck := fun S' => check w0 S' r hm
  simp only [hc, Bool.false_eq_true, if_false] at hck
  unfold Rec.av at hck ⊢
  refine enter Tryz.func17 rfl (by decide +kernel) (by rw [Tryz.ntmps17]; simp) (by rw [Tryz.ntmps17]; decide) (fun hO => ?_); rw [Tryz.ntmps17]
  repeat' first
    | apply x_seq | apply x_skip | apply x_block | apply x_exit | apply x_ret | apply x_ops_nil | apply p_blk | apply p_exit_it | apply p_exit_hit | apply p_ret_it | apply p_ret_blk | apply p_panic_it | apply p_panic_blk | apply p_end
    | (apply p_exit_miss; (focus rfl))
    | (apply x_region; simp only [List.toList_toArray])
    | (apply x_step0; (focus rfl); (focus (simp only [go_sem, *]; (try rfl); done)); (focus rfl); simp only [putA])
    | (apply x_callA []; (focus (simp only [go_sem, *]; (try rfl); done)); (focus rfl); (focus (simp only [go_sem, *]; (try rfl); done)); (focus rfl); (iterate 2 (focus (simp only [go_sem, *]; (try rfl); done))); (first | (apply hck)); simp only [afterCall, putA])
    | (apply x_panic; (focus (simp only [go_sem, *]; (try rfl); done)); (focus rfl); (focus (simp only [go_sem, *]; (try rfl); done)))
    | (apply x_step; (iterate 2 (focus (simp only [go_sem, *]; (try rfl); done))); (focus rfl); simp only [putA])
    | (apply x_unwanted; (focus (simp only [go_sem, *]; (try rfl); done)); (focus rfl); simp only [putA])
    | (apply x_condT; (focus (simp only [go_sem, *]; (try rfl); done)))
    | (apply x_condF; (focus (simp only [go_sem, *]; (try rfl); done)))
    | (apply x_guardS; (focus rfl); (fail_if_success (focus (show _ = some true; (focus (simp only [go_sem, *]; (try rfl); done))))); (focus (simp only [go_sem, *]; (try rfl); done)); all_goals (intro hb; try simp only [Bool.not_eq_true', Bool.not_eq_false'] at hb))
    | (apply x_condS; (focus (simp only [go_sem, *]; (try rfl); done)); all_goals (intro hb; try simp only [Bool.not_eq_true', Bool.not_eq_false'] at hb))
  (apply f_ret; iterate 7 (focus (simp only [go_sem, *, Tryz.results17]; (try rfl); done)))
  exact h
end Go.Proofs.YtnndmokndgnidaaGreatDoor
namespace Go.Proofs.YtnndmokndgnidaaGreatDoor
open Go Go.Fen
set_option linter.unusedSimpArgs false
set_option linter.unusedVariables false
attribute [local irreducible] RunX WP ACall AnyP OpA ProtL
set_option maxRecDepth 8000
set_option maxHeartbeats 2000000 in
theorem refUpto (w0 : World) (S : List Blk) (r : Rec) (t : Int) (n : Nat) (hc : checkB r = true) (hn : UpTo r.items t n) (R : AOut → List Blk → Prop) (h : R (.ret (.tup [.int .i64 n, .int .i64 0])) S) :
    ACall Tryz.prog w0 18 [r.av, .int .i64 t] S R := by
  have hck := fun S' => refCheck w0 S' r
  simp only [hc, if_true] at hck
  have hw := waits_of hc
  clear hc
  unfold Rec.av at hck ⊢
  have HW := Lib.hid hw
  have HN := Lib.hid hn
  clear hw hn
  refine enter Tryz.func18 rfl (by decide +kernel) (by rw [Tryz.ntmps18]; simp) (by rw [Tryz.ntmps18]; decide) (fun hO => ?_); rw [Tryz.ntmps18]
  repeat' first
    | apply x_seq | apply x_skip | apply x_block | apply x_exit | apply x_ret | apply x_ops_nil | apply p_blk | apply p_exit_it | apply p_exit_hit | apply p_ret_it | apply p_ret_blk | apply p_panic_it | apply p_panic_blk | apply p_end
    | (apply p_exit_miss; (focus rfl))
    | (apply x_region; simp only [List.toList_toArray])
    | (apply x_step0; (focus rfl); (focus (simp only [go_sem, *]; (try rfl); done)); (focus rfl); simp only [putA])
    | (apply x_callA []; (focus (simp only [go_sem, *]; (try rfl); done)); (focus rfl); (focus (simp only [go_sem, *]; (try rfl); done)); (focus rfl); (iterate 2 (focus (simp only [go_sem, *]; (try rfl); done))); (first | (apply hck)); simp only [afterCall, putA])
    | (apply x_panic; (focus (simp only [go_sem, *]; (try rfl); done)); (focus rfl); (focus (simp only [go_sem, *]; (try rfl); done)))
    | (apply x_step; (iterate 2 (focus (simp only [go_sem, *]; (try rfl); done))); (focus rfl); simp only [putA])
    | (apply x_unwanted; (focus (simp only [go_sem, *]; (try rfl); done)); (focus rfl); simp only [putA])
    | (apply x_condT; (focus (simp only [go_sem, *]; (try rfl); done)))
    | (apply x_condF; (focus (simp only [go_sem, *]; (try rfl); done)))
    | (apply x_guardS; (focus rfl); (fail_if_success (focus (show _ = some true; (focus (simp only [go_sem, *]; (try rfl); done))))); (focus (simp only [go_sem, *]; (try rfl); done)); all_goals (intro hb; try simp only [Bool.not_eq_true', Bool.not_eq_false'] at hb))
    | (apply x_condS; (focus (simp only [go_sem, *]; (try rfl); done)); all_goals (intro hb; try simp only [Bool.not_eq_true', Bool.not_eq_false'] at hb))
  refine x_ind (fun (i : Nat) env S' => i ≤ r.items.length ∧ env 1000000 = .dfr [] ∧ env 1 = .int .i64 t ∧ env 2 = .own S.length 0 ∧ env 6 = .int .i64 ((min i n : Nat) : Int) ∧ env 7 = .int .i64 (tmz r.items i) ∧ env 8 = .int .i64 (i : Int) ∧
    S' = S ++ [Blk.cells [AV.int .i64 r.cols, AV.int .i64 r.rows, AV.sval false (List.map It.av r.items)]]) (fun i => r.items.length - i) 0 ?_ ?_
  · exact ⟨Nat.zero_le _, by (simp only [go_sem, *]; try rfl), by (simp only [go_sem, *]; try rfl), by (simp only [go_sem, *]; try rfl), by (simp only [go_sem, *, Nat.zero_min]; try rfl), by (simp only [go_sem, *, tmz, List.take_zero, List.map_nil, List.sum_nil]; try rfl), by (simp only [go_sem, *]; try rfl), rfl⟩
  · clear hck
    rintro i env S' ⟨hi, e0, f1, f2, f6, f7, f8, rfl⟩ IH
    have HI := Lib.hid IH
    clear IH
    by_cases hlt : i < r.items.length
    · obtain ⟨x, hx⟩ : ∃ x, r.items[i]? = some x := ⟨_, List.getElem?_eq_getElem hlt⟩
      have h1 : decide ((i : Int) < (r.items.length : Int)) = true := by simpa using hlt
      have hb := tmz_bd HW.out.2 (i + 1)
      have hl := HW.out.1
      have hs := tmz_succ hx
      have hw1 : IntKind.i64.wrap (tmz r.items i + x.wait) = tmz r.items (i + 1) := by rw [← hs]; exact IntWalk.i64_in _ (by omega)
      have hw2 : IntKind.i64.wrap ((i : Int) + 1) = (i : Int) + 1 := IntWalk.i64_in _ (by omega)
      have Hil := Lib.hid hlt
      by_cases hin : i < n
      · have hm : min i n = i := by omega
        have hm2 : min (i + 1) n = i + 1 := by omega
        have h3 : decide (tmz r.items (i + 1) ≤ t) = true := decide_eq_true (HN.out.1 i hin)
        rw [hm] at f6
        clear hlt hi hb hl hs hin hm
        repeat' first
          | apply x_seq | apply x_skip | apply x_block | apply x_exit | apply x_ret | apply x_ops_nil | apply p_blk | apply p_exit_it | apply p_exit_hit | apply p_ret_it | apply p_ret_blk | apply p_panic_it | apply p_panic_blk | apply p_end
          | (apply p_exit_miss; (focus rfl))
          | (apply x_region; simp only [List.toList_toArray])
          | (apply x_step0; (focus rfl); (focus (simp only [go_sem, *, It.av]; (try rfl); done)); (focus rfl); simp only [putA])
          | (apply x_panic; (focus (simp only [go_sem, *, It.av]; (try rfl); done)); (focus rfl); (focus (simp only [go_sem, *, It.av]; (try rfl); done)))
          | (apply x_step; (iterate 2 (focus (simp only [go_sem, *, It.av]; (try rfl); done))); (focus rfl); simp only [putA])
          | (apply x_unwanted; (focus (simp only [go_sem, *, It.av]; (try rfl); done)); (focus rfl); simp only [putA])
          | (apply x_condT; (focus (simp only [go_sem, *, It.av]; (try rfl); done)))
          | (apply x_condF; (focus (simp only [go_sem, *, It.av]; (try rfl); done)))
          | (apply x_guardS; (focus rfl); (fail_if_success (focus (show _ = some true; (focus (simp only [go_sem, *, It.av]; (try rfl); done))))); (focus (simp only [go_sem, *, It.av]; (try rfl); done)); all_goals (intro hb; try simp only [Bool.not_eq_true', Bool.not_eq_false'] at hb))
          | (apply x_condS; (focus (simp only [go_sem, *, It.av]; (try rfl); done)); all_goals (intro hb; try simp only [Bool.not_eq_true', Bool.not_eq_false'] at hb))
        refine HI.out (i + 1) _ _ (by have := Hil.out; omega) ⟨Hil.out, ?_, ?_, ?_, ?_, ?_, ?_, rfl⟩
        · (simp only [go_sem, *]; try rfl)
        · (simp only [go_sem, *]; try rfl)
        · (simp only [go_sem, *]; try rfl)
        · rw [hm2]; (simp only [go_sem, *]; try rfl)
        · (simp only [go_sem, *]; try rfl)
        · (simp only [go_sem, *]; try rfl)
      · have hm : min i n = n := by omega
        have hm2 : min (i + 1) n = n := by omega
        have h3 : decide (tmz r.items (i + 1) ≤ t) = false := by
          have q1 := HN.out.2.2 (by omega)
          have q2 := tmz_mono (fun y hy => (HW.out.2 y hy).1) (show n + 1 ≤ i + 1 by omega)
          simp only [decide_eq_false_iff_not]; omega
        rw [hm] at f6
        clear hlt hi hb hl hs hin hm
        repeat' first
          | apply x_seq | apply x_skip | apply x_block | apply x_exit | apply x_ret | apply x_ops_nil | apply p_blk | apply p_exit_it | apply p_exit_hit | apply p_ret_it | apply p_ret_blk | apply p_panic_it | apply p_panic_blk | apply p_end
          | (apply p_exit_miss; (focus rfl))
          | (apply x_region; simp only [List.toList_toArray])
          | (apply x_step0; (focus rfl); (focus (simp only [go_sem, *, It.av]; (try rfl); done)); (focus rfl); simp only [putA])
          | (apply x_panic; (focus (simp only [go_sem, *, It.av]; (try rfl); done)); (focus rfl); (focus (simp only [go_sem, *, It.av]; (try rfl); done)))
          | (apply x_step; (iterate 2 (focus (simp only [go_sem, *, It.av]; (try rfl); done))); (focus rfl); simp only [putA])
          | (apply x_unwanted; (focus (simp only [go_sem, *, It.av]; (try rfl); done)); (focus rfl); simp only [putA])
          | (apply x_condT; (focus (simp only [go_sem, *, It.av]; (try rfl); done)))
          | (apply x_condF; (focus (simp only [go_sem, *, It.av]; (try rfl); done)))
          | (apply x_guardS; (focus rfl); (fail_if_success (focus (show _ = some true; (focus (simp only [go_sem, *, It.av]; (try rfl); done))))); (focus (simp only [go_sem, *, It.av]; (try rfl); done)); all_goals (intro hb; try simp only [Bool.not_eq_true', Bool.not_eq_false'] at hb))
          | (apply x_condS; (focus (simp only [go_sem, *, It.av]; (try rfl); done)); all_goals (intro hb; try simp only [Bool.not_eq_true', Bool.not_eq_false'] at hb))
        refine HI.out (i + 1) _ _ (by have := Hil.out; omega) ⟨Hil.out, ?_, ?_, ?_, ?_, ?_, ?_, rfl⟩
        · (simp only [go_sem, *]; try rfl)
        · (simp only [go_sem, *]; try rfl)
        · (simp only [go_sem, *]; try rfl)
        · rw [hm2]; (simp only [go_sem, *]; try rfl)
        · (simp only [go_sem, *]; try rfl)
        · (simp only [go_sem, *]; try rfl)
    · have hE : i = r.items.length := by omega
      have hm : min i n = n := by have := HN.out.2.1; omega
      have h1 : decide ((i : Int) < (r.items.length : Int)) = false := by simpa using hlt
      rw [hm] at f6
      clear HI hlt hi hE hm
      repeat' first
        | apply x_seq | apply x_skip | apply x_block | apply x_exit | apply x_ret | apply x_ops_nil | apply p_blk | apply p_exit_it | apply p_exit_hit | apply p_ret_it | apply p_ret_blk | apply p_panic_it | apply p_panic_blk | apply p_end
        | (apply p_exit_miss; (focus rfl))
        | (apply x_region; simp only [List.toList_toArray])
        | (apply x_step0; (focus rfl); (focus (simp only [go_sem, *]; (try rfl); done)); (focus rfl); simp only [putA])
        | (apply x_panic; (focus (simp only [go_sem, *]; (try rfl); done)); (focus rfl); (focus (simp only [go_sem, *]; (try rfl); done)))
        | (apply x_step; (iterate 2 (focus (simp only [go_sem, *]; (try rfl); done))); (focus rfl); simp only [putA])
        | (apply x_unwanted; (focus (simp only [go_sem, *]; (try rfl); done)); (focus rfl); simp only [putA])
        | (apply x_condT; (focus (simp only [go_sem, *]; (try rfl); done)))
        | (apply x_condF; (focus (simp only [go_sem, *]; (try rfl); done)))
        | (apply x_guardS; (focus rfl); (fail_if_success (focus (show _ = some true; (focus (simp only [go_sem, *]; (try rfl); done))))); (focus (simp only [go_sem, *]; (try rfl); done)); all_goals (intro hb; try simp only [Bool.not_eq_true', Bool.not_eq_false'] at hb))
        | (apply x_condS; (focus (simp only [go_sem, *]; (try rfl); done)); all_goals (intro hb; try simp only [Bool.not_eq_true', Bool.not_eq_false'] at hb))
      (apply f_ret; iterate 7 (focus (simp only [go_sem, *, Tryz.results18]; (try rfl); done)))
      exact h
end Go.Proofs.YtnndmokndgnidaaGreatDoor
namespace Go.Proofs.YtnndmokndgnidaaGreatDoor
open Go Go.Fen
set_option linter.unusedSimpArgs false
set_option linter.unusedVariables false
attribute [local irreducible] RunX WP ACall AnyP OpA ProtL
set_option maxRecDepth 8000
def bentIt (x : It) : It := ⟨x.wait, x.kind, x.cols, x.rows, x.text.take 300⟩
def bentR (r : Rec) (x : It) (u : Nat) : Rec := ⟨r.cols, r.rows, r.items.set (u % r.items.length) (bentIt x)⟩
set_option maxHeartbeats 4000000 in
theorem bent (w0 : World) (S : List Blk) (r : Rec) (x : It) (u : Nat) (hu : u < 256) (hm : r.items.length ≤ 1000) (R : AOut → List Blk → Prop) (h : R (.ret (bentR r x u).av) S) :
    ACall Tryz.prog w0 8 [r.av, x.av, .int .u8 u] S R := by
  have hmn : (if (300 : Int) < (x.text.length : Int) then 300 else (x.text.length : Int)) = ((min x.text.length 300 : Nat) : Int) := by split <;> omega
  have hm2 : ((min x.text.length 300 : Nat) : Int) ≤ (x.text.length : Int) := by omega
  have htk : List.take (min x.text.length 300) x.text = List.take 300 x.text := List.take_eq_take_iff.2 (by omega)
  have hb1 : r.items.length * 48 ≤ 140737488355328 := by omega
  have hwu : IntKind.i64.wrap (u : Int) = (u : Int) := IntWalk.i64_in _ (by omega)
  have okA := It.ok r.items
  simp only [okEls, AV.cells] at okA
  unfold bentR at h
  unfold Rec.av at h ⊢
  cases hl : r.items with
  | nil =>
    simp only [hl, List.length_nil, List.set_nil] at h
    refine enter Tryz.func8 rfl (by decide +kernel) (by rw [Tryz.ntmps8]; simp) (by rw [Tryz.ntmps8]; decide) (fun hO => ?_); rw [Tryz.ntmps8]
    repeat' first
      | apply x_seq | apply x_skip | apply x_block | apply x_exit | apply x_ret | apply x_ops_nil | apply p_blk | apply p_exit_it | apply p_exit_hit | apply p_ret_it | apply p_ret_blk | apply p_panic_it | apply p_panic_blk | apply p_end
      | (apply p_exit_miss; (focus rfl))
      | (apply x_region; simp only [List.toList_toArray])
      | (apply x_step0; (focus rfl); (focus (simp only [go_sem, *, It.av, hl]; (try rfl); done)); (focus rfl); simp only [putA])
      | (apply x_panic; (focus (simp only [go_sem, *, It.av, hl]; (try rfl); done)); (focus rfl); (focus (simp only [go_sem, *, It.av, hl]; (try rfl); done)))
      | (apply x_step; (iterate 2 (focus (simp only [go_sem, *, It.av, hl]; (try rfl); done))); (focus rfl); simp only [putA])
      | (apply x_unwanted; (focus (simp only [go_sem, *, It.av, hl]; (try rfl); done)); (focus rfl); simp only [putA])
      | (apply x_condT; (focus (simp only [go_sem, *, It.av, hl]; (try rfl); done)))
      | (apply x_condF; (focus (simp only [go_sem, *, It.av, hl]; (try rfl); done)))
      | (apply x_guardS; (focus rfl); (fail_if_success (focus (show _ = some true; (focus (simp only [go_sem, *, It.av, hl]; (try rfl); done))))); (focus (simp only [go_sem, *, It.av, hl]; (try rfl); done)); all_goals (intro hb; try simp only [Bool.not_eq_true', Bool.not_eq_false'] at hb))
      | (apply x_condS; (focus (simp only [go_sem, *, It.av, hl]; (try rfl); done)); all_goals (intro hb; try simp only [Bool.not_eq_true', Bool.not_eq_false'] at hb))
      | (apply d_draw; (focus exact mixed); (focus ((simp only [List.size_toArray, List.length_cons, List.length_nil, Nat.reduceAdd]; try rfl); done)))
      | (apply d_done; (focus decide +kernel))
      | ((first | (apply d_take 0; (focus decide +kernel)) | (apply d_take 1; (focus decide +kernel)) | (apply d_take 2; (focus decide +kernel)) | (apply d_take 3; (focus decide +kernel)) | (apply d_take 4; (focus decide +kernel)) | (apply d_take 5; (focus decide +kernel)) | (apply d_take 6; (focus decide +kernel)) | (apply d_take 7; (focus decide +kernel)) | (apply d_take 8; (focus decide +kernel)) | (apply d_take 9; (focus decide +kernel)) | (apply d_take 10; (focus decide +kernel)) | (apply d_take 11; (focus decide +kernel)) | (apply d_take 12; (focus decide +kernel)) | (apply d_take 13; (focus decide +kernel)) | (apply d_take 14; (focus decide +kernel)) | (apply d_take 15; (focus decide +kernel)) | (apply d_take 16; (focus decide +kernel)) | (apply d_take 17; (focus decide +kernel))); (focus (first | exact qds_FPost | exact qds_RPost | exact qds_YB | assumption)); (focus rfl); (iterate 3 (focus (simp only [go_sem, *, It.av, hl]; (try rfl); done))); (focus rfl); (focus (simp only [go_sem, *, It.av, hl]; (try rfl); done)); simp only [putA])
      | ((first | (apply d_unw 0; (focus decide +kernel)) | (apply d_unw 1; (focus decide +kernel)) | (apply d_unw 2; (focus decide +kernel)) | (apply d_unw 3; (focus decide +kernel)) | (apply d_unw 4; (focus decide +kernel)) | (apply d_unw 5; (focus decide +kernel)) | (apply d_unw 6; (focus decide +kernel)) | (apply d_unw 7; (focus decide +kernel)) | (apply d_unw 8; (focus decide +kernel)) | (apply d_unw 9; (focus decide +kernel)) | (apply d_unw 10; (focus decide +kernel)) | (apply d_unw 11; (focus decide +kernel)) | (apply d_unw 12; (focus decide +kernel)) | (apply d_unw 13; (focus decide +kernel)) | (apply d_unw 14; (focus decide +kernel)) | (apply d_unw 15; (focus decide +kernel)) | (apply d_unw 16; (focus decide +kernel)) | (apply d_unw 17; (focus decide +kernel))); (focus (first | exact qds_FPost | exact qds_RPost | exact qds_YB | assumption)); (focus rfl); (iterate 2 (focus (simp only [go_sem, *, It.av, hl]; (try rfl); done))); (focus rfl); simp only [putA])
      | (first | (apply d_one 0; (focus decide +kernel)) | (apply d_one 1; (focus decide +kernel)) | (apply d_one 2; (focus decide +kernel)) | (apply d_one 3; (focus decide +kernel)) | (apply d_one 4; (focus decide +kernel)) | (apply d_one 5; (focus decide +kernel)) | (apply d_one 6; (focus decide +kernel)) | (apply d_one 7; (focus decide +kernel)) | (apply d_one 8; (focus decide +kernel)) | (apply d_one 9; (focus decide +kernel)) | (apply d_one 10; (focus decide +kernel)) | (apply d_one 11; (focus decide +kernel)) | (apply d_one 12; (focus decide +kernel)) | (apply d_one 13; (focus decide +kernel)) | (apply d_one 14; (focus decide +kernel)) | (apply d_one 15; (focus decide +kernel)) | (apply d_one 16; (focus decide +kernel)) | (apply d_one 17; (focus decide +kernel)))
      | (apply o_step; (iterate 3 (focus (simp only [go_sem, *, It.av, hl]; (try rfl); done))); (focus rfl); simp only [putA])
      | (apply o_unw; (iterate 2 (focus (simp only [go_sem, *, It.av, hl]; (try rfl); done))); (focus rfl); simp only [putA])
      | apply pr_nil | apply pr_same | apply pr_go | apply pl_nil | apply pl_none | (apply pl_skip; (focus decide +kernel)) | (apply pl_one; (focus (simp only [go_sem, *, It.av, hl]; (try rfl); done)))
    (apply f_ret; iterate 7 (focus (simp only [go_sem, *, Tryz.results8, hl]; (try rfl); done)))
    exact h
  | cons y ys =>
    rw [← hl]
    have hpos : decide ((0 : Int) < (r.items.length : Int)) = true := by simpa using (show 0 < r.items.length by rw [hl]; simp)
    have hp : 0 < r.items.length := by rw [hl]; simp
    have hrem : (u : Int).tmod (r.items.length : Int) = ((u % r.items.length : Nat) : Int) := by rw [Int.tmod_eq_emod_of_nonneg (by omega)]; rfl
    have hrl : u % r.items.length < r.items.length := Nat.mod_lt _ hp
    obtain ⟨k, hk⟩ : ∃ k, u % r.items.length = k := ⟨_, rfl⟩
    rw [hk] at hrem hrl h
    have hwk : IntKind.i64.wrap (k : Int) = (k : Int) := IntWalk.i64_in _ (by clear hwu; omega)
    have hn1 : ¬ r.items = [] := by rw [hl]; simp
    have hn2 : ¬ r.items.length = 0 := by omega
    have hn3 : ¬ ((r.items.length : Int) = 0) := by omega
    obtain ⟨z, hz⟩ : ∃ z, r.items[k]? = some z := ⟨_, List.getElem?_eq_getElem hrl⟩
    have hki : (k : Int) < (r.items.length : Int) := by omega
    clear hl hp hu hm hk
    refine enter Tryz.func8 rfl (by decide +kernel) (by rw [Tryz.ntmps8]; simp) (by rw [Tryz.ntmps8]; decide) (fun hO => ?_); rw [Tryz.ntmps8]
    repeat' first
      | apply x_seq | apply x_skip | apply x_block | apply x_exit | apply x_ret | apply x_ops_nil | apply p_blk | apply p_exit_it | apply p_exit_hit | apply p_ret_it | apply p_ret_blk | apply p_panic_it | apply p_panic_blk | apply p_end
      | (apply p_exit_miss; (focus rfl))
      | (apply x_region; simp only [List.toList_toArray])
      | (apply x_step0; (focus rfl); (focus (simp only [go_sem, *, It.av, List.length_map]; (try rfl); done)); (focus rfl); simp only [putA])
      | (apply x_panic; (focus (simp only [go_sem, *, It.av, List.length_map]; (try rfl); done)); (focus rfl); (focus (simp only [go_sem, *, It.av, List.length_map]; (try rfl); done)))
      | (apply x_step; (iterate 2 (focus (simp only [go_sem, *, It.av, List.length_map]; (try rfl); done))); (focus rfl); simp only [putA])
      | (apply x_unwanted; (focus (simp only [go_sem, *, It.av, List.length_map]; (try rfl); done)); (focus rfl); simp only [putA])
      | (apply x_condT; (focus (simp only [go_sem, *, It.av, List.length_map]; (try rfl); done)))
      | (apply x_condF; (focus (simp only [go_sem, *, It.av, List.length_map]; (try rfl); done)))
      | (apply x_guardS; (focus rfl); (fail_if_success (focus (show _ = some true; (focus (simp only [go_sem, *, It.av, List.length_map]; (try rfl); done))))); (focus (simp only [go_sem, *, It.av, List.length_map]; (try rfl); done)); all_goals (intro hb; try simp only [Bool.not_eq_true', Bool.not_eq_false'] at hb))
      | (apply x_condS; (focus (simp only [go_sem, *, It.av, List.length_map]; (try rfl); done)); all_goals (intro hb; try simp only [Bool.not_eq_true', Bool.not_eq_false'] at hb))
      | (apply d_draw; (focus exact mixed); (focus ((simp only [List.size_toArray, List.length_cons, List.length_nil, Nat.reduceAdd]; try rfl); done)))
      | (apply d_done; (focus decide +kernel))
      | ((first | (apply d_take 0; (focus decide +kernel)) | (apply d_take 1; (focus decide +kernel)) | (apply d_take 2; (focus decide +kernel)) | (apply d_take 3; (focus decide +kernel)) | (apply d_take 4; (focus decide +kernel)) | (apply d_take 5; (focus decide +kernel)) | (apply d_take 6; (focus decide +kernel)) | (apply d_take 7; (focus decide +kernel)) | (apply d_take 8; (focus decide +kernel)) | (apply d_take 9; (focus decide +kernel)) | (apply d_take 10; (focus decide +kernel)) | (apply d_take 11; (focus decide +kernel)) | (apply d_take 12; (focus decide +kernel)) | (apply d_take 13; (focus decide +kernel)) | (apply d_take 14; (focus decide +kernel)) | (apply d_take 15; (focus decide +kernel)) | (apply d_take 16; (focus decide +kernel)) | (apply d_take 17; (focus decide +kernel))); (focus (first | exact qds_FPost | exact qds_RPost | exact qds_YB | assumption)); (focus rfl); (iterate 3 (focus (simp only [go_sem, *, It.av, List.length_map]; (try rfl); done))); (focus rfl); (focus (simp only [go_sem, *, It.av, List.length_map]; (try rfl); done)); simp only [putA])
      | ((first | (apply d_unw 0; (focus decide +kernel)) | (apply d_unw 1; (focus decide +kernel)) | (apply d_unw 2; (focus decide +kernel)) | (apply d_unw 3; (focus decide +kernel)) | (apply d_unw 4; (focus decide +kernel)) | (apply d_unw 5; (focus decide +kernel)) | (apply d_unw 6; (focus decide +kernel)) | (apply d_unw 7; (focus decide +kernel)) | (apply d_unw 8; (focus decide +kernel)) | (apply d_unw 9; (focus decide +kernel)) | (apply d_unw 10; (focus decide +kernel)) | (apply d_unw 11; (focus decide +kernel)) | (apply d_unw 12; (focus decide +kernel)) | (apply d_unw 13; (focus decide +kernel)) | (apply d_unw 14; (focus decide +kernel)) | (apply d_unw 15; (focus decide +kernel)) | (apply d_unw 16; (focus decide +kernel)) | (apply d_unw 17; (focus decide +kernel))); (focus (first | exact qds_FPost | exact qds_RPost | exact qds_YB | assumption)); (focus rfl); (iterate 2 (focus (simp only [go_sem, *, It.av, List.length_map]; (try rfl); done))); (focus rfl); simp only [putA])
      | (first | (apply d_one 0; (focus decide +kernel)) | (apply d_one 1; (focus decide +kernel)) | (apply d_one 2; (focus decide +kernel)) | (apply d_one 3; (focus decide +kernel)) | (apply d_one 4; (focus decide +kernel)) | (apply d_one 5; (focus decide +kernel)) | (apply d_one 6; (focus decide +kernel)) | (apply d_one 7; (focus decide +kernel)) | (apply d_one 8; (focus decide +kernel)) | (apply d_one 9; (focus decide +kernel)) | (apply d_one 10; (focus decide +kernel)) | (apply d_one 11; (focus decide +kernel)) | (apply d_one 12; (focus decide +kernel)) | (apply d_one 13; (focus decide +kernel)) | (apply d_one 14; (focus decide +kernel)) | (apply d_one 15; (focus decide +kernel)) | (apply d_one 16; (focus decide +kernel)) | (apply d_one 17; (focus decide +kernel)))
      | (apply o_step; (iterate 3 (focus (simp only [go_sem, *, It.av, List.length_map]; (try rfl); done))); (focus rfl); simp only [putA])
      | (apply o_unw; (iterate 2 (focus (simp only [go_sem, *, It.av, List.length_map]; (try rfl); done))); (focus rfl); simp only [putA])
      | ((first | (apply d_takeD 0; (focus decide +kernel)) | (apply d_takeD 1; (focus decide +kernel)) | (apply d_takeD 2; (focus decide +kernel)) | (apply d_takeD 3; (focus decide +kernel)) | (apply d_takeD 4; (focus decide +kernel)) | (apply d_takeD 5; (focus decide +kernel)) | (apply d_takeD 6; (focus decide +kernel)) | (apply d_takeD 7; (focus decide +kernel)) | (apply d_takeD 8; (focus decide +kernel)) | (apply d_takeD 9; (focus decide +kernel)) | (apply d_takeD 10; (focus decide +kernel)) | (apply d_takeD 11; (focus decide +kernel)) | (apply d_takeD 12; (focus decide +kernel)) | (apply d_takeD 13; (focus decide +kernel)) | (apply d_takeD 14; (focus decide +kernel)) | (apply d_takeD 15; (focus decide +kernel)) | (apply d_takeD 16; (focus decide +kernel)) | (apply d_takeD 17; (focus decide +kernel))); (iterate 3 (focus (simp only [go_sem, *, It.av, List.length_map]; (try rfl); done))); (focus rfl); (focus (first | rfl | decide +kernel)); (focus (simp only [go_sem, *, It.av, List.length_map]; (try rfl); done)); simp only [putA])
      | (apply pl_skip2; (focus decide +kernel))
      | apply pr_nil | apply pr_same | apply pr_go | apply pl_nil | apply pl_none | (apply pl_skip; (focus decide +kernel)) | (apply pl_one; (focus (simp only [go_sem, *, It.av, List.length_map]; (try rfl); done)))
    have hset : (List.map It.av r.items).set k (AV.agg [AV.int IntKind.i64 x.wait, AV.int IntKind.i64 x.kind, AV.int IntKind.i64 x.cols, AV.int IntKind.i64 x.rows, AV.str (List.take 300 x.text)]) = List.map It.av (r.items.set k (bentIt x)) := by
      rw [List.map_set]
      rfl
    rw [hset]
    (apply f_ret; iterate 7 (focus (simp only [go_sem, *, Tryz.results8, List.length_set, List.length_map]; (try rfl); done)))
    exact h
end Go.Proofs.YtnndmokndgnidaaGreatDoor
namespace Go.Proofs.YtnndmokndgnidaaGreatDoor
open Go Go.Fen
set_option linter.unusedSimpArgs false
set_option linter.unusedVariables false
attribute [local irreducible] RunX WP ACall AnyP OpA ProtL
set_option maxRecDepth 8000
theorem x_genSc {P : Program} {w0 : World} {n0 N : Nat} {r : Option Nat} {Q : APost} {k : List TI} {env : Env} {S : List Blk} {i : KI} (h : ∀ S', S' = S → RunX P w0 n0 N r (.it i :: k) Q .normal env S') : RunX P w0 n0 N r (.it i :: k) Q .normal env S := h S rfl
theorem upto_ex (w0 : World) (y : Rec) (hy : (y.items.length : Int) < 9223372036854775807) (t : Int) : ∃ U F : Int,
    (∀ S' (R : AOut → List Blk → Prop), R (.ret (.tup [.int .i64 U, .int .i64 F])) S' → ACall Tryz.prog w0 17 [y.av, .int .i64 t] S' R) ∧
    (∀ S' (R : AOut → List Blk → Prop), R (.ret (.tup [.int .i64 U, .int .i64 F])) S' → ACall Tryz.prog w0 18 [y.av, .int .i64 t] S' R) := by
  cases hc : checkB y with
  | false => exact ⟨0, 520, fun S' R h => upto0 w0 S' y hy t hc R h, fun S' R h => refUpto0 w0 S' y t hc R h⟩
  | true =>
    obtain ⟨n, hn⟩ := upTo_ex y.items t
    exact ⟨n, 0, fun S' R h => uptoR w0 S' y hy t n hc hn R h, fun S' R h => refUpto w0 S' y t n hc hn R h⟩
set_option maxHeartbeats 64000000 in
theorem checksLaw (w0 : World) (hT : Tab w0) (hS : Syn w0) (S : List Blk) (r0 : Rec) (d : Dr) (x : It) (u : Nat) (hu : u < 256) (t : Int) (R : AOut → List Blk → Prop) (h : R (.ret (.bool true)) S) :
    ACall Tryz.prog w0 3 [r0.av, d.av, x.av, .int .u8 u, .int .i64 t] S R := by
  have hla : d.rcd.items.length ≤ 100 := by simp [Dr.rcd]; omega
  have hsh := fun S' => short w0 S' r0
  have hre := fun S' => recording w0 S' d
  have hbe := fun S' => bent w0 S' d.rcd x u hu (by omega)
  have hwo := works w0 hT (parseUint w0 hS)
  have hlr : (shortR r0).items.length ≤ 100 := by simp [shortR]; omega
  have hlb : (bentR d.rcd x u).items.length ≤ 100 := by unfold bentR; rw [List.length_set]; exact hla
  generalize shortR r0 = r at hsh hlr
  generalize bentR d.rcd x u = b at hbe hlb
  generalize d.rcd = a at hre hbe hla
  have facts : ∀ y : Rec, y.items.length ≤ 100 → ∃ (s : List UInt8) (e m g c : Int) (q : Bool) (U F : Int → Int), (y = a → q = true) ∧
      (∀ S' (R : AOut → List Blk → Prop), R (.ret (.tup [.str s, .int .i64 e])) S' → ACall Tryz.prog w0 9 [y.av] S' R) ∧
      (∀ S' (R : AOut → List Blk → Prop), R (.ret (.tup [.str s, .int .i64 e])) S' → ACall Tryz.prog w0 10 [y.av] S' R) ∧
      (∀ S' (R : AOut → List Blk → Prop), R (.ret (.tup [.int .i64 m, .int .i64 g])) S' → ACall Tryz.prog w0 11 [y.av] S' R) ∧
      (∀ S' (R : AOut → List Blk → Prop), R (.ret (.tup [.int .i64 m, .int .i64 g])) S' → ACall Tryz.prog w0 12 [y.av] S' R) ∧
      (∀ S' (R : AOut → List Blk → Prop), R (.ret (.int .i64 c)) S' → ACall Tryz.prog w0 13 [y.av] S' R) ∧
      (∀ S' (R : AOut → List Blk → Prop), R (.ret (.int .i64 c)) S' → ACall Tryz.prog w0 14 [y.av] S' R) ∧
      (∀ S' (R : AOut → List Blk → Prop), R (.ret (.bool q)) S' → ACall Tryz.prog w0 15 [y.av, a.av] S' R) ∧
      (∀ S' (R : AOut → List Blk → Prop), R (.ret (.bool q)) S' → ACall Tryz.prog w0 16 [y.av, a.av] S' R) ∧
      (∀ S' (R : AOut → List Blk → Prop), R (.ret (.bool true)) S' → ACall Tryz.prog w0 15 [y.av, y.av] S' R) ∧
      (∀ S' p (R : AOut → List Blk → Prop), R (.ret (.tup [.int .i64 (U p), .int .i64 (F p)])) S' → ACall Tryz.prog w0 17 [y.av, .int .i64 p] S' R) ∧
      (∀ S' p (R : AOut → List Blk → Prop), R (.ret (.tup [.int .i64 (U p), .int .i64 (F p)])) S' → ACall Tryz.prog w0 18 [y.av, .int .i64 p] S' R) := by
    intro y hy
    have hm : (y.items.length : Int) < 9223372036854775807 := by omega
    have hU := fun p => upto_ex w0 y hm p
    refine ⟨(printP y).1, (printP y).2, (longS y).1, (longS y).2, if checkB y then 0 else 520, sameB y a, fun p => (hU p).choose, fun p => (hU p).choose_spec.choose, ?_, ?_, ?_, ?_, ?_, ?_, ?_, ?_, ?_, ?_, ?_, ?_⟩
    · rintro rfl; simp [sameB]
    · intro S' R h
      refine print w0 hT S' y hm R ?_
      unfold printP at h
      cases hc : checkB y <;> simpa [hc] using h
    · exact fun S' R h => refPrint w0 S' y R h
    · intro S' R h
      refine long w0 S' y hm R ?_
      unfold longS at h
      cases hc : checkB y <;> simpa [hc] using h
    · exact fun S' R h => refLong w0 S' y hm R h
    · exact fun S' R h => check w0 S' y hm R h
    · exact fun S' R h => refCheck w0 S' y R h
    · exact fun S' R h => same w0 S' y a hm R h
    · exact fun S' R h => refSame w0 S' y a hm R h
    · exact fun S' R h => same w0 S' y y hm R (by simpa [sameB] using h)
    · exact fun S' p R h => (hU p).choose_spec.choose_spec.1 S' R h
    · exact fun S' p R h => (hU p).choose_spec.choose_spec.2 S' R h
  have Facts := Lib.hid facts
  have Hlr := Lib.hid hlr
  have Hla := Lib.hid hla
  have Hlb := Lib.hid hlb
  clear facts hlr hla hlb hT hS hu
  have hx : x.av = AV.agg [AV.int .i64 x.wait, AV.int .i64 x.kind, AV.int .i64 x.cols, AV.int .i64 x.rows, AV.str x.text] := rfl
  rw [hx] at hbe ⊢
  clear hx
  unfold Rec.av at hsh hre hbe
  unfold Rec.av
  unfold Dr.av at hre
  unfold Dr.av
  replace hsh := Lib.hid hsh
  replace hre := Lib.hid hre
  replace hbe := Lib.hid hbe
  replace hwo := Lib.hid hwo
  refine enter Tryz.func3 rfl (by decide +kernel) (by rw [Tryz.ntmps3]; simp) (by rw [Tryz.ntmps3]; decide) (fun hO => ?_); rw [Tryz.ntmps3]
  repeat' first
    | apply x_seq | apply x_skip | apply x_block | apply x_exit | apply x_ret | apply x_ops_nil | apply p_blk | apply p_exit_it | apply p_exit_hit | apply p_ret_it | apply p_ret_blk | apply p_panic_it | apply p_panic_blk | apply p_end
    | (apply p_exit_miss; (focus rfl))
    | (apply x_region; simp only [List.toList_toArray])
    | (apply x_step0; (focus rfl); (focus (simp only [go_sem, *]; (try rfl); done)); (focus rfl); simp only [putA])
    | (apply x_callA []; (focus (simp only [go_sem, *]; (try rfl); done)); (focus rfl); (focus (simp only [go_sem, *]; (try rfl); done)); (focus rfl); (iterate 2 (focus (simp only [go_sem, *]; (try rfl); done))); (first | (apply hsh.out) | (apply hre.out) | (apply hbe.out)); simp only [afterCall, putA])
    | (apply x_panic; (focus (simp only [go_sem, *]; (try rfl); done)); (focus rfl); (focus (simp only [go_sem, *]; (try rfl); done)))
    | (apply x_step; (iterate 2 (focus (simp only [go_sem, *]; (try rfl); done))); (focus rfl); simp only [putA])
    | (apply x_unwanted; (focus (simp only [go_sem, *]; (try rfl); done)); (focus rfl); simp only [putA])
    | (apply x_condT; (focus (simp only [go_sem, *]; (try rfl); done)))
    | (apply x_condF; (focus (simp only [go_sem, *]; (try rfl); done)))
    | (apply x_guardS; (focus rfl); (fail_if_success (focus (show _ = some true; (focus (simp only [go_sem, *]; (try rfl); done))))); (focus (simp only [go_sem, *]; (try rfl); done)); all_goals (intro hb; try simp only [Bool.not_eq_true', Bool.not_eq_false'] at hb))
    | (apply x_condS; (focus (simp only [go_sem, *]; (try rfl); done)); all_goals (intro hb; try simp only [Bool.not_eq_true', Bool.not_eq_false'] at hb))
    | (apply d_draw; (focus exact mixed); (focus ((simp only [List.size_toArray, List.length_cons, List.length_nil, Nat.reduceAdd]; try rfl); done)))
    | (apply d_done; (focus decide +kernel))
    | ((first | (apply d_take 0; (focus decide +kernel)) | (apply d_take 1; (focus decide +kernel)) | (apply d_take 2; (focus decide +kernel)) | (apply d_take 3; (focus decide +kernel)) | (apply d_take 4; (focus decide +kernel)) | (apply d_take 5; (focus decide +kernel)) | (apply d_take 6; (focus decide +kernel)) | (apply d_take 7; (focus decide +kernel)) | (apply d_take 8; (focus decide +kernel)) | (apply d_take 9; (focus decide +kernel)) | (apply d_take 10; (focus decide +kernel)) | (apply d_take 11; (focus decide +kernel)) | (apply d_take 12; (focus decide +kernel)) | (apply d_take 13; (focus decide +kernel)) | (apply d_take 14; (focus decide +kernel)) | (apply d_take 15; (focus decide +kernel)) | (apply d_take 16; (focus decide +kernel)) | (apply d_take 17; (focus decide +kernel))); (focus (first | exact qds_FPost | exact qds_RPost | exact qds_YB | assumption)); (focus rfl); (iterate 3 (focus (simp only [go_sem, *]; (try rfl); done))); (focus rfl); (focus (simp only [go_sem, *]; (try rfl); done)); simp only [putA])
    | ((first | (apply d_unw 0; (focus decide +kernel)) | (apply d_unw 1; (focus decide +kernel)) | (apply d_unw 2; (focus decide +kernel)) | (apply d_unw 3; (focus decide +kernel)) | (apply d_unw 4; (focus decide +kernel)) | (apply d_unw 5; (focus decide +kernel)) | (apply d_unw 6; (focus decide +kernel)) | (apply d_unw 7; (focus decide +kernel)) | (apply d_unw 8; (focus decide +kernel)) | (apply d_unw 9; (focus decide +kernel)) | (apply d_unw 10; (focus decide +kernel)) | (apply d_unw 11; (focus decide +kernel)) | (apply d_unw 12; (focus decide +kernel)) | (apply d_unw 13; (focus decide +kernel)) | (apply d_unw 14; (focus decide +kernel)) | (apply d_unw 15; (focus decide +kernel)) | (apply d_unw 16; (focus decide +kernel)) | (apply d_unw 17; (focus decide +kernel))); (focus (first | exact qds_FPost | exact qds_RPost | exact qds_YB | assumption)); (focus rfl); (iterate 2 (focus (simp only [go_sem, *]; (try rfl); done))); (focus rfl); simp only [putA])
    | (first | (apply d_one 0; (focus decide +kernel)) | (apply d_one 1; (focus decide +kernel)) | (apply d_one 2; (focus decide +kernel)) | (apply d_one 3; (focus decide +kernel)) | (apply d_one 4; (focus decide +kernel)) | (apply d_one 5; (focus decide +kernel)) | (apply d_one 6; (focus decide +kernel)) | (apply d_one 7; (focus decide +kernel)) | (apply d_one 8; (focus decide +kernel)) | (apply d_one 9; (focus decide +kernel)) | (apply d_one 10; (focus decide +kernel)) | (apply d_one 11; (focus decide +kernel)) | (apply d_one 12; (focus decide +kernel)) | (apply d_one 13; (focus decide +kernel)) | (apply d_one 14; (focus decide +kernel)) | (apply d_one 15; (focus decide +kernel)) | (apply d_one 16; (focus decide +kernel)) | (apply d_one 17; (focus decide +kernel)))
    | (apply o_step; (iterate 3 (focus (simp only [go_sem, *]; (try rfl); done))); (focus rfl); simp only [putA])
    | (apply o_unw; (iterate 2 (focus (simp only [go_sem, *]; (try rfl); done))); (focus rfl); simp only [putA])
    | apply pr_nil | apply pr_same | apply pr_go | apply pl_nil | apply pl_none | (apply pl_skip; (focus decide +kernel)) | (apply pl_one; (focus (simp only [go_sem, *]; (try rfl); done)))
    | (apply o_call []; (iterate 2 (focus (simp only [go_sem, *]; (try rfl); done))); (focus rfl); (focus (simp only [go_sem, *]; (try rfl); done)); (focus rfl); (iterate 2 (focus (simp only [go_sem, *]; (try rfl); done))); (first | (apply hsh.out) | (apply hre.out) | (apply hbe.out)); simp only [afterOp, putA])
  refine x_gen [1000000, 4, 11, 45, 46] ?_
  intro env1 hA
  simp only [agreeL, go_sem] at hA
  obtain ⟨q0, q4, q11, q45, q46⟩ := hA
  refine x_genSc ?_
  intro S0 hS0
  refine x_ind (fun (j : Nat) env S' => j ≤ 4 ∧ env 1000000 = .dfr [] ∧ env 4 = env1 4 ∧ env 11 = env1 11 ∧ env 45 = env1 45 ∧ env 46 = .int .i64 j ∧ S' = S0) (fun j => 4 - j) 0 ?_ ?_
  · exact ⟨by omega, q0, rfl, rfl, rfl, q46, rfl⟩
  · rintro j env S' ⟨hj, e0, e4, e11, e45, e46, hS⟩ IH
    have HI := Lib.hid IH
    have HS0 := Lib.hid hS0
    rw [hS, hS0]
    have QQ := Lib.hid (And.intro q4 (And.intro q11 q45))
    rw [q4] at e4
    rw [q11] at e11
    rw [q45] at e45
    clear IH q0 q4 q11 q45 q46 hS hS0
    by_cases hj2 : j = 4
    · subst hj2
      repeat' first
        | apply x_seq | apply x_skip | apply x_block | apply x_exit | apply x_ret | apply x_ops_nil | apply p_blk | apply p_exit_it | apply p_exit_hit | apply p_ret_it | apply p_ret_blk | apply p_panic_it | apply p_panic_blk | apply p_end
        | (apply p_exit_miss; (focus rfl))
        | (apply x_region; simp only [List.toList_toArray])
        | (apply x_step0; (focus rfl); (focus (simp only [go_sem, *]; (try rfl); done)); (focus rfl); simp only [putA])
        | (apply x_callA []; (focus (simp only [go_sem, *]; (try rfl); done)); (focus rfl); (focus (simp only [go_sem, *]; (try rfl); done)); (focus rfl); (iterate 2 (focus (simp only [go_sem, *]; (try rfl); done))); (first | (apply hwo.out)); simp only [afterCall, putA])
        | (apply x_panic; (focus (simp only [go_sem, *]; (try rfl); done)); (focus rfl); (focus (simp only [go_sem, *]; (try rfl); done)))
        | (apply x_step; (iterate 2 (focus (simp only [go_sem, *]; (try rfl); done))); (focus rfl); simp only [putA])
        | (apply x_unwanted; (focus (simp only [go_sem, *]; (try rfl); done)); (focus rfl); simp only [putA])
        | (apply x_condT; (focus (simp only [go_sem, *]; (try rfl); done)))
        | (apply x_condF; (focus (simp only [go_sem, *]; (try rfl); done)))
        | (apply x_guardS; (focus rfl); (fail_if_success (focus (show _ = some true; (focus (simp only [go_sem, *]; (try rfl); done))))); (focus (simp only [go_sem, *]; (try rfl); done)); all_goals (intro hb; try simp only [Bool.not_eq_true', Bool.not_eq_false'] at hb))
        | (apply x_condS; (focus (simp only [go_sem, *]; (try rfl); done)); all_goals (intro hb; try simp only [Bool.not_eq_true', Bool.not_eq_false'] at hb))
      (apply f_ret; iterate 7 (focus (simp only [go_sem, *, Tryz.results3]; (try rfl); done)))
      exact h
    · obtain ⟨y, hyl, hsel⟩ : ∃ y : Rec, y.items.length ≤ 100 ∧ ((j = 0 ∧ y = r) ∨ (j = 1 ∧ y = a) ∨ (j = 2 ∧ y = b) ∨ (j = 3 ∧ y = ⟨r.cols, r.rows, a.items⟩)) := by
        have hj3 : j = 0 ∨ j = 1 ∨ j = 2 ∨ j = 3 := by omega
        rcases hj3 with e | e | e | e
        · exact ⟨r, Hlr.out, .inl ⟨e, rfl⟩⟩
        · exact ⟨a, Hla.out, .inr (.inl ⟨e, rfl⟩)⟩
        · exact ⟨b, Hlb.out, .inr (.inr (.inl ⟨e, rfl⟩))⟩
        · exact ⟨⟨r.cols, r.rows, a.items⟩, Hla.out, .inr (.inr (.inr ⟨e, rfl⟩))⟩
      obtain ⟨s, e, m, g, c, q, U, F, hqa, f1, f2, f3, f4, f5, f6, f7, f8, f9, f10, f11⟩ := Facts.out y hyl
      clear hj hj2 hyl
      rcases hsel with ⟨rfl, hx⟩ | ⟨rfl, hx⟩ | ⟨rfl, hx⟩ | ⟨rfl, hx⟩
      all_goals
        subst hx
        try (have hq := hqa rfl; subst hq)
        clear hqa
        unfold Rec.av at f1 f2 f3 f4 f5 f6 f7 f8 f9 f10 f11
        try dsimp only at f1 f2 f3 f4 f5 f6 f7 f8 f9 f10 f11
        replace f1 := Lib.hid f1
        replace f2 := Lib.hid f2
        replace f3 := Lib.hid f3
        replace f4 := Lib.hid f4
        replace f5 := Lib.hid f5
        replace f6 := Lib.hid f6
        replace f7 := Lib.hid f7
        replace f8 := Lib.hid f8
        replace f9 := Lib.hid f9
        replace f10 := Lib.hid f10
        replace f11 := Lib.hid f11
        repeat' first
          | apply x_seq | apply x_skip | apply x_block | apply x_exit | apply x_ret | apply x_ops_nil | apply p_blk | apply p_exit_it | apply p_exit_hit | apply p_ret_it | apply p_ret_blk | apply p_panic_it | apply p_panic_blk | apply p_end
          | (apply p_exit_miss; (focus rfl))
          | (apply x_region; simp only [List.toList_toArray])
          | (apply x_step0; (focus rfl); (focus (simp only [go_sem, *]; (try rfl); done)); (focus rfl); simp only [putA])
          | (apply x_callA []; (focus (simp only [go_sem, *]; (try rfl); done)); (focus rfl); (focus (simp only [go_sem, *]; (try rfl); done)); (focus rfl); (iterate 2 (focus (simp only [go_sem, *]; (try rfl); done))); (first | (apply f1.out) | (apply f2.out) | (apply f3.out) | (apply f4.out) | (apply f5.out) | (apply f6.out) | (apply f7.out) | (apply f8.out) | (apply f9.out)); simp only [afterCall, putA])
          | (apply x_panic; (focus (simp only [go_sem, *]; (try rfl); done)); (focus rfl); (focus (simp only [go_sem, *]; (try rfl); done)))
          | (apply x_step; (iterate 2 (focus (simp only [go_sem, *]; (try rfl); done))); (focus rfl); simp only [putA])
          | (apply x_unwanted; (focus (simp only [go_sem, *]; (try rfl); done)); (focus rfl); simp only [putA])
          | (apply x_condT; (focus (simp only [go_sem, *]; (try rfl); done)))
          | (apply x_condF; (focus (simp only [go_sem, *]; (try rfl); done)))
          | (apply x_guardS; (focus rfl); (fail_if_success (focus (show _ = some true; (focus (simp only [go_sem, *]; (try rfl); done))))); (focus (simp only [go_sem, *]; (try rfl); done)); all_goals (intro hb; try simp only [Bool.not_eq_true', Bool.not_eq_false'] at hb))
          | (apply x_condS; (focus (simp only [go_sem, *]; (try rfl); done)); all_goals (intro hb; try simp only [Bool.not_eq_true', Bool.not_eq_false'] at hb))
          | (apply d_draw; (focus exact mixed); (focus ((simp only [List.size_toArray, List.length_cons, List.length_nil, Nat.reduceAdd]; try rfl); done)))
          | (apply d_done; (focus decide +kernel))
          | ((first | (apply d_lt 7; (focus decide +kernel); (first | (apply d_take 0; (focus decide +kernel)) | (apply d_take 1; (focus decide +kernel)) | (apply d_take 2; (focus decide +kernel)) | (apply d_take 3; (focus decide +kernel)) | (apply d_take 4; (focus decide +kernel)) | (apply d_take 5; (focus decide +kernel)) | (apply d_take 6; (focus decide +kernel)))) | (apply d_lt 14; (focus decide +kernel); (first | (apply d_take 7; (focus decide +kernel)) | (apply d_take 8; (focus decide +kernel)) | (apply d_take 9; (focus decide +kernel)) | (apply d_take 10; (focus decide +kernel)) | (apply d_take 11; (focus decide +kernel)) | (apply d_take 12; (focus decide +kernel)) | (apply d_take 13; (focus decide +kernel)))) | (apply d_lt 21; (focus decide +kernel); (first | (apply d_take 14; (focus decide +kernel)) | (apply d_take 15; (focus decide +kernel)) | (apply d_take 16; (focus decide +kernel)) | (apply d_take 17; (focus decide +kernel)) | (apply d_take 18; (focus decide +kernel)) | (apply d_take 19; (focus decide +kernel)) | (apply d_take 20; (focus decide +kernel)))) | (apply d_lt 28; (focus decide +kernel); (first | (apply d_take 21; (focus decide +kernel)) | (apply d_take 22; (focus decide +kernel)) | (apply d_take 23; (focus decide +kernel)) | (apply d_take 24; (focus decide +kernel)) | (apply d_take 25; (focus decide +kernel)) | (apply d_take 26; (focus decide +kernel)) | (apply d_take 27; (focus decide +kernel)))) | (apply d_lt 35; (focus decide +kernel); (first | (apply d_take 28; (focus decide +kernel)) | (apply d_take 29; (focus decide +kernel)) | (apply d_take 30; (focus decide +kernel)) | (apply d_take 31; (focus decide +kernel)) | (apply d_take 32; (focus decide +kernel)) | (apply d_take 33; (focus decide +kernel)) | (apply d_take 34; (focus decide +kernel)))) | (apply d_lt 40; (focus decide +kernel); (first | (apply d_take 35; (focus decide +kernel)) | (apply d_take 36; (focus decide +kernel)) | (apply d_take 37; (focus decide +kernel)) | (apply d_take 38; (focus decide +kernel)) | (apply d_take 39; (focus decide +kernel))))); (focus (first | exact qds_FPost | exact qds_RPost | exact qds_YB | assumption)); (focus rfl); (iterate 3 (focus (simp only [go_sem, *]; (try rfl); done))); (focus rfl); (focus (simp only [go_sem, *]; (try rfl); done)); simp only [putA])
          | ((first | (apply d_lt 7; (focus decide +kernel); (first | (apply d_unw 0; (focus decide +kernel)) | (apply d_unw 1; (focus decide +kernel)) | (apply d_unw 2; (focus decide +kernel)) | (apply d_unw 3; (focus decide +kernel)) | (apply d_unw 4; (focus decide +kernel)) | (apply d_unw 5; (focus decide +kernel)) | (apply d_unw 6; (focus decide +kernel)))) | (apply d_lt 14; (focus decide +kernel); (first | (apply d_unw 7; (focus decide +kernel)) | (apply d_unw 8; (focus decide +kernel)) | (apply d_unw 9; (focus decide +kernel)) | (apply d_unw 10; (focus decide +kernel)) | (apply d_unw 11; (focus decide +kernel)) | (apply d_unw 12; (focus decide +kernel)) | (apply d_unw 13; (focus decide +kernel)))) | (apply d_lt 21; (focus decide +kernel); (first | (apply d_unw 14; (focus decide +kernel)) | (apply d_unw 15; (focus decide +kernel)) | (apply d_unw 16; (focus decide +kernel)) | (apply d_unw 17; (focus decide +kernel)) | (apply d_unw 18; (focus decide +kernel)) | (apply d_unw 19; (focus decide +kernel)) | (apply d_unw 20; (focus decide +kernel)))) | (apply d_lt 28; (focus decide +kernel); (first | (apply d_unw 21; (focus decide +kernel)) | (apply d_unw 22; (focus decide +kernel)) | (apply d_unw 23; (focus decide +kernel)) | (apply d_unw 24; (focus decide +kernel)) | (apply d_unw 25; (focus decide +kernel)) | (apply d_unw 26; (focus decide +kernel)) | (apply d_unw 27; (focus decide +kernel)))) | (apply d_lt 35; (focus decide +kernel); (first | (apply d_unw 28; (focus decide +kernel)) | (apply d_unw 29; (focus decide +kernel)) | (apply d_unw 30; (focus decide +kernel)) | (apply d_unw 31; (focus decide +kernel)) | (apply d_unw 32; (focus decide +kernel)) | (apply d_unw 33; (focus decide +kernel)) | (apply d_unw 34; (focus decide +kernel)))) | (apply d_lt 40; (focus decide +kernel); (first | (apply d_unw 35; (focus decide +kernel)) | (apply d_unw 36; (focus decide +kernel)) | (apply d_unw 37; (focus decide +kernel)) | (apply d_unw 38; (focus decide +kernel)) | (apply d_unw 39; (focus decide +kernel))))); (focus (first | exact qds_FPost | exact qds_RPost | exact qds_YB | assumption)); (focus rfl); (iterate 2 (focus (simp only [go_sem, *]; (try rfl); done))); (focus rfl); simp only [putA])
          | (first | (apply d_lt1 7; (focus decide +kernel); (first | (apply d_one 0; (focus decide +kernel)) | (apply d_one 1; (focus decide +kernel)) | (apply d_one 2; (focus decide +kernel)) | (apply d_one 3; (focus decide +kernel)) | (apply d_one 4; (focus decide +kernel)) | (apply d_one 5; (focus decide +kernel)) | (apply d_one 6; (focus decide +kernel)))) | (apply d_lt1 14; (focus decide +kernel); (first | (apply d_one 7; (focus decide +kernel)) | (apply d_one 8; (focus decide +kernel)) | (apply d_one 9; (focus decide +kernel)) | (apply d_one 10; (focus decide +kernel)) | (apply d_one 11; (focus decide +kernel)) | (apply d_one 12; (focus decide +kernel)) | (apply d_one 13; (focus decide +kernel)))) | (apply d_lt1 21; (focus decide +kernel); (first | (apply d_one 14; (focus decide +kernel)) | (apply d_one 15; (focus decide +kernel)) | (apply d_one 16; (focus decide +kernel)) | (apply d_one 17; (focus decide +kernel)) | (apply d_one 18; (focus decide +kernel)) | (apply d_one 19; (focus decide +kernel)) | (apply d_one 20; (focus decide +kernel)))) | (apply d_lt1 28; (focus decide +kernel); (first | (apply d_one 21; (focus decide +kernel)) | (apply d_one 22; (focus decide +kernel)) | (apply d_one 23; (focus decide +kernel)) | (apply d_one 24; (focus decide +kernel)) | (apply d_one 25; (focus decide +kernel)) | (apply d_one 26; (focus decide +kernel)) | (apply d_one 27; (focus decide +kernel)))) | (apply d_lt1 35; (focus decide +kernel); (first | (apply d_one 28; (focus decide +kernel)) | (apply d_one 29; (focus decide +kernel)) | (apply d_one 30; (focus decide +kernel)) | (apply d_one 31; (focus decide +kernel)) | (apply d_one 32; (focus decide +kernel)) | (apply d_one 33; (focus decide +kernel)) | (apply d_one 34; (focus decide +kernel)))) | (apply d_lt1 40; (focus decide +kernel); (first | (apply d_one 35; (focus decide +kernel)) | (apply d_one 36; (focus decide +kernel)) | (apply d_one 37; (focus decide +kernel)) | (apply d_one 38; (focus decide +kernel)) | (apply d_one 39; (focus decide +kernel)))))
          | (apply o_step; (iterate 3 (focus (simp only [go_sem, *]; (try rfl); done))); (focus rfl); simp only [putA])
          | (apply o_unw; (iterate 2 (focus (simp only [go_sem, *]; (try rfl); done))); (focus rfl); simp only [putA])
          | apply pr_nil | apply pr_same | apply pr_go | apply pl_nil | apply pl_none | (apply pl_skip; (focus decide +kernel)) | (apply pl_one; (focus (simp only [go_sem, *]; (try rfl); done)))
          | (apply o_call []; (iterate 2 (focus (simp only [go_sem, *]; (try rfl); done))); (focus rfl); (focus (simp only [go_sem, *]; (try rfl); done)); (focus rfl); (iterate 2 (focus (simp only [go_sem, *]; (try rfl); done))); (first | (apply f1.out) | (apply f2.out) | (apply f3.out) | (apply f4.out) | (apply f5.out) | (apply f6.out) | (apply f7.out) | (apply f8.out) | (apply f9.out)); simp only [afterOp, putA])
        refine x_gen [1000000, 4, 11, 13, 45, 46, 115, 116] ?_
        intro env2 hA
        simp only [agreeL, go_sem, e0, e4, e11, e45, e46] at hA
        obtain ⟨q0, q4, q11, q13, q45, q46, q115, q116⟩ := hA
        obtain ⟨k0, k1, k2, h115⟩ : ∃ k0 k1 k2 : Int, env2 115 = AV.agg [.int .i64 k0, .int .i64 k1, .int .i64 k2] := ⟨_, _, _, q115⟩
        clear q115 e0 e4 e11 e45 e46
        refine x_genSc ?_
        intro S1 hS1
        refine x_ind (fun (k : Nat) env' S' => k ≤ 3 ∧ env' 1000000 = .dfr [] ∧ env' 4 = env2 4 ∧ env' 11 = env2 11 ∧ env' 13 = env2 13 ∧ env' 45 = env2 45 ∧ env' 46 = env2 46 ∧ env' 115 = env2 115 ∧ env' 116 = .int .i64 k ∧ S' = S1) (fun k => 3 - k) 0 ?_ ?_
        · exact ⟨by omega, q0, rfl, rfl, rfl, rfl, rfl, rfl, q116, rfl⟩
        · rintro k env3 S3 ⟨hk, z0, z4, z11, z13, z45, z46, z115, z116, hS⟩ JH
          have HJ := Lib.hid JH
          have HS1 := Lib.hid hS1
          rw [hS, hS1]
          have QR := Lib.hid (And.intro q4 (And.intro q11 (And.intro q13 (And.intro q45 (And.intro q46 h115)))))
          rw [q4] at z4
          rw [q11] at z11
          rw [q13] at z13
          rw [q45] at z45
          rw [q46] at z46
          rw [h115] at z115
          clear JH q0 q4 q11 q13 q45 q46 h115 q116 hS hS1
          by_cases hk3 : k = 3
          · subst hk3
            clear hk HJ HS1 QR
            repeat' first
              | apply x_seq | apply x_skip | apply x_block | apply x_exit | apply x_ret | apply x_ops_nil | apply p_blk | apply p_exit_it | apply p_exit_hit | apply p_ret_it | apply p_ret_blk | apply p_panic_it | apply p_panic_blk | apply p_end
              | (apply p_exit_miss; (focus rfl))
              | (apply x_region; simp only [List.toList_toArray])
              | (apply x_step0; (focus rfl); (focus (simp only [go_sem, *]; (try rfl); done)); (focus rfl); simp only [putA])
              | (apply x_panic; (focus (simp only [go_sem, *]; (try rfl); done)); (focus rfl); (focus (simp only [go_sem, *]; (try rfl); done)))
              | (apply x_step; (iterate 2 (focus (simp only [go_sem, *]; (try rfl); done))); (focus rfl); simp only [putA])
              | (apply x_unwanted; (focus (simp only [go_sem, *]; (try rfl); done)); (focus rfl); simp only [putA])
              | (apply x_condT; (focus (simp only [go_sem, *]; (try rfl); done)))
              | (apply x_condF; (focus (simp only [go_sem, *]; (try rfl); done)))
              | (apply x_guardS; (focus rfl); (fail_if_success (focus (show _ = some true; (focus (simp only [go_sem, *]; (try rfl); done))))); (focus (simp only [go_sem, *]; (try rfl); done)); all_goals (intro hb; try simp only [Bool.not_eq_true', Bool.not_eq_false'] at hb))
              | (apply x_condS; (focus (simp only [go_sem, *]; (try rfl); done)); all_goals (intro hb; try simp only [Bool.not_eq_true', Bool.not_eq_false'] at hb))
            refine x_keep hO 4 [4, 11, 45, 46] rfl (by (simp only [go_sem, *]; try rfl)) (by (simp only [go_sem, *]; try rfl)) (by (simp only [go_sem, *]; try rfl)) ?_
            simp only [List.take_succ_cons, List.take_zero]
            have qq := QQ.out
            first
            | refine HI.out 1 _ _ (by decide) ⟨by decide, ?_, ?_, ?_, ?_, ?_, HS0.out.symm⟩
            | refine HI.out 2 _ _ (by decide) ⟨by decide, ?_, ?_, ?_, ?_, ?_, HS0.out.symm⟩
            | refine HI.out 3 _ _ (by decide) ⟨by decide, ?_, ?_, ?_, ?_, ?_, HS0.out.symm⟩
            | refine HI.out 4 _ _ (by decide) ⟨by decide, ?_, ?_, ?_, ?_, ?_, HS0.out.symm⟩
            all_goals (simp only [go_sem, *]; try rfl)
          · have hk4 : k = 0 ∨ k = 1 ∨ k = 2 := by omega
            clear hk hk3
            rcases hk4 with rfl | rfl | rfl
            all_goals
              repeat' first
                | apply x_seq | apply x_skip | apply x_block | apply x_exit | apply x_ret | apply x_ops_nil | apply p_blk | apply p_exit_it | apply p_exit_hit | apply p_ret_it | apply p_ret_blk | apply p_panic_it | apply p_panic_blk | apply p_end
                | (apply p_exit_miss; (focus rfl))
                | (apply x_region; simp only [List.toList_toArray])
                | (apply x_step0; (focus rfl); (focus (simp only [go_sem, *]; (try rfl); done)); (focus rfl); simp only [putA])
                | (apply x_callA []; (focus (simp only [go_sem, *]; (try rfl); done)); (focus rfl); (focus (simp only [go_sem, *]; (try rfl); done)); (focus rfl); (iterate 2 (focus (simp only [go_sem, *]; (try rfl); done))); (first | (apply f10.out) | (apply f11.out)); simp only [afterCall, putA])
                | (apply x_panic; (focus (simp only [go_sem, *]; (try rfl); done)); (focus rfl); (focus (simp only [go_sem, *]; (try rfl); done)))
                | (apply x_step; (iterate 2 (focus (simp only [go_sem, *]; (try rfl); done))); (focus rfl); simp only [putA])
                | (apply x_unwanted; (focus (simp only [go_sem, *]; (try rfl); done)); (focus rfl); simp only [putA])
                | (apply x_condT; (focus (simp only [go_sem, *]; (try rfl); done)))
                | (apply x_condF; (focus (simp only [go_sem, *]; (try rfl); done)))
                | (apply x_guardS; (focus rfl); (fail_if_success (focus (show _ = some true; (focus (simp only [go_sem, *]; (try rfl); done))))); (focus (simp only [go_sem, *]; (try rfl); done)); all_goals (intro hb; try simp only [Bool.not_eq_true', Bool.not_eq_false'] at hb))
                | (apply x_condS; (focus (simp only [go_sem, *]; (try rfl); done)); all_goals (intro hb; try simp only [Bool.not_eq_true', Bool.not_eq_false'] at hb))
              refine x_keep hO 5 [4, 11, 13, 45, 46, 115, 116] rfl (by (simp only [go_sem, *]; try rfl)) (by (simp only [go_sem, *]; try rfl)) (by (simp only [go_sem, *]; try rfl)) ?_
              simp only [List.take_succ_cons, List.take_zero]
              have qr := QR.out
              first
              | refine HJ.out 1 _ _ (by decide) ⟨by decide, ?_, ?_, ?_, ?_, ?_, ?_, ?_, ?_, HS1.out.symm⟩
              | refine HJ.out 2 _ _ (by decide) ⟨by decide, ?_, ?_, ?_, ?_, ?_, ?_, ?_, ?_, HS1.out.symm⟩
              | refine HJ.out 3 _ _ (by decide) ⟨by decide, ?_, ?_, ?_, ?_, ?_, ?_, ?_, ?_, HS1.out.symm⟩
              all_goals (simp only [go_sem, *]; try rfl)
end Go.Proofs.YtnndmokndgnidaaGreatDoor
namespace Go.Proofs.YtnndmokndgnidaaGreatDoor
open Go Go.Fen
set_option linter.unusedSimpArgs false
set_option linter.unusedVariables false
attribute [local irreducible] RunX WP ACall AnyP OpA ProtL
set_option maxRecDepth 8000
open Go.ChangeShapes Go.WideShapes Go.ChangeAt Go.RowKit
theorem own : ownKnob Tryz.prog.godebug = none := by kernel_rfl
theorem laid_mem {P : Program} {W : World} {nm : String} {d : DataW Unit} : ∀ {l : List (String × DataW Unit)} {ps : List MemPlace}, DataW.LaidVars P W l ps → (nm, d) ∈ l →
    ∃ g t cs fuel p, P.globalNamed nm = some g ∧ (P.globals[g]?).map (·.type) = some t ∧ W.var? P nm = some cs ∧ DataW.trod (fun _ => ()) P W 0 (fun _ => true) false fuel t cs.toList = some (d, p) := by
  intro l
  induction l with
  | nil => intro ps _ h; cases h
  | cons x l ih =>
    intro ps h hm
    obtain ⟨nm', d'⟩ := x
    obtain ⟨g, t, cs, fuel, p, q, h1, h2, h3, h4, h5, _⟩ := h
    rcases List.mem_cons.1 hm with e | hm
    · cases e; exact ⟨g, t, cs, fuel, p, h1, h2, h3, h4⟩
    · exact ih h5 hm
def seatLaid : List (String × DataW Unit) := [("math/bits.deBruijn32tab", Rows.laid_math_bits_deBruijn32tab), ("math/bits.deBruijn64tab", Rows.laid_math_bits_deBruijn64tab), ("internal/strconv.uint64pow10", Rows.laid_internal_strconv_uint64pow10), ("unicode/utf8.acceptRanges", Rows.laid_unicode_utf8_acceptRanges), ("strconv.ErrRange", Rows.laid_strconv_ErrRange), ("strconv.ErrSyntax", Rows.laid_strconv_ErrSyntax), ("unicode/utf8.first", Rows.laid_unicode_utf8_first)]
theorem gPow : Tryz.prog.globalNamed "internal/strconv.uint64pow10" = some 1 := by kernel_rfl
theorem gSyn : Tryz.prog.globalNamed "strconv.ErrSyntax" = some 4 := by kernel_rfl
theorem tab_of {W : World} (h : laidMetH Tryz.prog seatLaid W) : Tab W := by
  rw [MakeChecks.laidMetH_plain _ _ _ (by kernel_rfl)] at h
  obtain ⟨ps, hl, _⟩ := h
  obtain ⟨g, t, cs, fuel, p, h1, h2, h3, h4⟩ := laid_mem (nm := "internal/strconv.uint64pow10") (d := Rows.laid_internal_strconv_uint64pow10) hl (by simp [seatLaid])
  obtain rfl := Option.some.inj (gPow.symm.trans h1)
  obtain rfl := Option.some.inj ((show (Tryz.prog.globals[1]?).map (·.type) = some 138 by kernel_rfl).symm.trans h2)
  have h5 := Lib.cells_of_tab (k := .u64) (zs := Lib.pow10Tab) (un_138) (un_112) (by kernel_rfl) (by kernel_rfl) h4
  unfold Tab Lib.TabIs
  rw [h3, ← h5]
theorem syn_of {W : World} (h : laidMetH Tryz.prog seatLaid W) : Syn W := by
  rw [MakeChecks.laidMetH_plain _ _ _ (by kernel_rfl)] at h
  obtain ⟨ps, hl, _⟩ := h
  obtain ⟨g, t, cs, fuel, p, h1, h2, h3, h4⟩ := laid_mem (nm := "strconv.ErrSyntax") (d := Rows.laid_strconv_ErrSyntax) hl (by simp [seatLaid])
  obtain rfl := Option.some.inj (gSyn.symm.trans h1)
  obtain rfl := Option.some.inj ((show (Tryz.prog.globals[4]?).map (·.type) = some 73 by kernel_rfl).symm.trans h2)
  cases fuel with
  | zero => simp [DataW.trod] at h4
  | succ fuel =>
  simp only [DataW.trod, un_73] at h4
  have hc := World.var?_cell gSyn h3 0
  match hcs : cs.toList, h4 with
  | [.nilIface], _ => exact ⟨.nilIface, by rw [hc, ← Array.getElem?_toList, hcs]; rfl, .inl rfl⟩
  | [.iface u v], _ => exact ⟨.iface u v, by rw [hc, ← Array.getElem?_toList, hcs]; rfl, .inr ⟨u, v, rfl⟩⟩
def itSk : Sk := .cons (.int .i64) (.cons (.int .i64) (.cons (.int .i64) (.cons (.int .i64) (.cons .str .nil))))
def recSk : Sk := .cons (.int .i64) (.cons (.int .i64) (.cons (.sl itSk) .nil))
def ditSk : Sk := .cons (.int .u32) (.cons (.int .u8) (.cons (.int .u8) (.cons (.int .u8) (.cons .str .nil))))
def draftSk : Sk := .cons (.int .u8) (.cons (.int .u8) (.cons (.sl ditSk) .nil))
theorem els_map {α : Type} {s : Sk} {av : α → AV} (h : ∀ y, s.has y → ∃ x, s.mk y = av x) : ∀ els : List (List AV), (∀ y ∈ els, s.has y) → ∃ l : List α, els.map s.mk = l.map av ∧ l.length = els.length := by
  intro els
  induction els with
  | nil => intro _; exact ⟨[], rfl, rfl⟩
  | cons y els ih =>
    intro hh
    obtain ⟨x, hx⟩ := h y (hh y (List.mem_cons_self ..))
    obtain ⟨l, hl, hl2⟩ := ih fun z hz => hh z (List.mem_cons_of_mem _ hz)
    exact ⟨x :: l, by simp [hx, hl], by simp [hl2]⟩
theorem wf_nat {k : IntKind} {n : Int} (h : (Lit.int k n).wf = true) (hk : k.min = 0) : ((n.toNat : Nat) : Int) = n := by
  simp only [Lit.wf, Bool.and_eq_true, decide_eq_true_eq, hk] at h
  omega
theorem open_it (y : List AV) (h : itSk.has y) : ∃ x : It, itSk.mk y = x.av := by
  obtain ⟨_, _, rfl, ⟨a, rfl, _⟩, _, _, rfl, ⟨b, rfl, _⟩, _, _, rfl, ⟨c, rfl, _⟩, _, _, rfl, ⟨d, rfl, _⟩, _, _, rfl, ⟨s, rfl, _⟩, rfl⟩ := h
  exact ⟨⟨a, b, c, d, s⟩, rfl⟩
theorem open_rec (y : List AV) (h : recSk.has y) : ∃ x : Rec, recSk.mk y = x.av := by
  obtain ⟨_, _, rfl, ⟨a, rfl, _⟩, _, _, rfl, ⟨b, rfl, _⟩, _, _, rfl, ⟨els, rfl, _, he⟩, rfl⟩ := h
  obtain ⟨l, hl, _⟩ := els_map open_it els he
  exact ⟨⟨a, b, l⟩, by simp [Sk.mk, recSk, Sk.isAgg, Rec.av, hl]⟩
theorem open_dit (y : List AV) (h : ditSk.has y) : ∃ x : DIt, ditSk.mk y = x.av := by
  obtain ⟨_, _, rfl, ⟨a, rfl, ha⟩, _, _, rfl, ⟨b, rfl, hb⟩, _, _, rfl, ⟨c, rfl, hc⟩, _, _, rfl, ⟨d, rfl, hd⟩, _, _, rfl, ⟨s, rfl, _⟩, rfl⟩ := h
  exact ⟨⟨a.toNat, b.toNat, c.toNat, d.toNat, s⟩, by simp [Sk.mk, ditSk, Sk.isAgg, DIt.av, wf_nat ha rfl, wf_nat hb rfl, wf_nat hc rfl, wf_nat hd rfl]⟩
theorem open_draft (y : List AV) (h : draftSk.has y) : ∃ x : Dr, draftSk.mk y = x.av := by
  obtain ⟨_, _, rfl, ⟨a, rfl, ha⟩, _, _, rfl, ⟨b, rfl, hb⟩, _, _, rfl, ⟨els, rfl, _, he⟩, rfl⟩ := h
  obtain ⟨l, hl, _⟩ := els_map open_dit els he
  exact ⟨⟨a.toNat, b.toNat, l⟩, by simp [Sk.mk, draftSk, Sk.isAgg, Dr.av, hl, wf_nat ha rfl, wf_nat hb rfl]⟩
theorem laidOut : laidOutB Tryz.prog = true := by kernel_rfl
end Go.Proofs.YtnndmokndgnidaaGreatDoor
namespace Go.Proofs.YtnndmokndgnidaaGreatDoor
open Go Go.Fen
set_option linter.unusedSimpArgs false
set_option linter.unusedVariables false
attribute [local irreducible] RunX WP ACall AnyP OpA ProtL
set_option maxRecDepth 8000
theorem open_int {k : IntKind} (hk : k.min = 0) (y : List AV) (h : (Sk.int k).has y) : ∃ n : Nat, (n : Int) ≤ k.max ∧ (Sk.int k).mk y = .int k n := by
  obtain ⟨n, rfl, hw⟩ := h
  refine ⟨n.toNat, ?_, ?_⟩
  · have := wf_nat hw hk
    simp only [Lit.wf, Bool.and_eq_true, decide_eq_true_eq] at hw
    omega
  · rw [wf_nat hw hk]; rfl
namespace RecordChecks
theorem contract (H : Type) (enc : TypeId × Value → H) (W : World) (base : Nat) (args : Array Value) (ds gs : List (DataW H)) (before : List MemPlace)
    (hval : ∀ (j : Nat) t v, Tryz.f3.params[j]? = some t → args[j]? = some v → Value.okWide Tryz.prog W .any base t v)
    (hW : DataW.Whole enc Tryz.prog Tryz.f3.params.toList Rows.recordChecksSpec.vars false W args.toList ds gs before) (hL : laidMetH Tryz.prog seatLaid W) :
    Calls Tryz.prog 3 args W fun e W' => ∃ v, e = .returned v ∧ Rows.recordChecksSpec.post enc Tryz.prog Tryz.f3 false true false false W args v W' := by
  refine law_close (n := 20) (tb := 4) [recSk, draftSk, itSk, .int .u8, .int .i64] laidOut ?_ (by rw [Tryz.params3]; kernel_rfl) (by kernel_rfl) un_4 rfl ?_ hW hval ?_
  · rw [Tryz.params3]
    have : ([24, 27, 29, 5, 3].all fun t => Tryz.prog.readableRec t && decide (t < Tryz.prog.types.size)) = true := by kernel_rfl
    intro t ht
    simpa using List.all_eq_true.1 this t (by simpa using ht)
  · intro h
    rw [Tryz.params3] at h
    match ds, h with
    | [d1, d2, d3, d4, d5], _ => rfl
  · intro avs ha
    obtain ⟨y1, r1, h1, e1, ha1⟩ := ArgsH.cons' ha
    obtain ⟨y2, r2, h2, e2, ha2⟩ := ArgsH.cons' ha1
    obtain ⟨y3, r3, h3, e3, ha3⟩ := ArgsH.cons' ha2
    obtain ⟨y4, r4, h4, e4, ha4⟩ := ArgsH.cons' ha3
    obtain ⟨y5, r5, h5, e5, ha5⟩ := ArgsH.cons' ha4
    have e6 := ArgsH.nil' ha5
    rw [e1, e2, e3, e4, e5, e6]
    obtain ⟨r, hr⟩ := open_rec y1 h1
    obtain ⟨d, hd⟩ := open_draft y2 h2
    obtain ⟨x, hx⟩ := open_it y3 h3
    obtain ⟨u, hu, hu'⟩ := open_int rfl y4 h4
    obtain ⟨t, rfl, _⟩ := h5
    have hu2 : u < 256 := by
      have : IntKind.u8.max = 255 := by decide
      omega
    rw [hr, hd, hx, hu']
    exact checksLaw W (tab_of hL) (syn_of hL) [] r d x u hu2 t _ rfl
def wit : Array Value := #[.agg #[.int .i64 0, .int .i64 0, .slice none 0 0], .agg #[.int .u8 0, .int .u8 0, .slice none 0 0], .agg #[.int .i64 0, .int .i64 0, .int .i64 0, .int .i64 0, .string ⟨#[]⟩], .int .u8 0, .int .i64 0]
set_option maxRecDepth 100000 in
theorem lifted (os : Os) (started : os.Started) (H : Type) (enc : TypeId × Value → H) :
    ReturnsInHanded {} Tryz.checked os 3 .any (fun w args => (Rows.recordChecksSpec.pre enc Tryz.prog Tryz.f3 Rows.recordChecksRow.domain false w args ∧ laidMetH Tryz.prog seatLaid w) ∧ sizedMet enc Tryz.prog Tryz.f3 (OpenSpec.ofChange Rows.recordChecksSpec) false w args)
      (Rows.recordChecksSpec.post enc Tryz.prog Tryz.f3 false true false false) := by
  refine returnsInHanded_of_change_and (C := Tryz.checked) (X := fun w _ => laidMetH Tryz.prog seatLaid w) (fun _ _ _ hh h => h.of_heap hh) own started (by kernel_rfl) Tryz.func3
    (ChangeSpec.witness_shaped (enc := enc) (C := Tryz.checked) (os := os) (X := fun w _ => laidMetH Tryz.prog seatLaid w) false (World.laidAll Tryz.prog os seatLaid) wit 8 (World.laidAll_os _ _ _)
      (World.shaped_of_ZipB (by kernel_rfl) (by kernel_rfl)) (by kernel_rfl) (by kernel_rfl) (by kernel_rfl)
      (by rw [MakeChecks.laidMetH_plain _ _ _ (by kernel_rfl)]; exact laidMet_laidAll _ (by kernel_rfl) (by kernel_rfl))) ?_
  intro W base args ds gs before hval hW _ _ hL _
  exact contract H enc W base args ds gs before hval hW hL
theorem said : Rows.RecordChecksSaid :=
  OpenClaim.holds_of_wide 3 Tryz.f3 rfl rfl rfl rfl rfl rfl rfl ⟨rfl, rfl, rfl, rfl, rfl⟩ rfl rfl rfl rfl rfl (by kernel_rfl) Tryz.func3 (by kernel_rfl)
    (of_decide_eq_true (by kernel_rfl)) (by unfold Func.isWrapper; first | (rw [if_pos (by decide +kernel)]; kernel_rfl) | (rw [if_neg (by decide +kernel)]; exact ⟨rfl, rfl⟩))
    (fun os started H enc _ => lifted os started H enc)
theorem plainF (f : FuncId) (fn : Func) (hf : Tryz.pinned.checked.prog.funcNamed "fenestra/fenestralaw42.RecordChecks" = some f) (hfn : Tryz.pinned.checked.prog.funcs[f]? = some fn) :
    true = Tryz.pinned.checked.prog.looks [] ∧ ∀ (j : Nat) t, fn.params[j]? = some t → Tryz.pinned.checked.prog.wantsStandIn t = false := by
  obtain rfl : f = 3 := Option.some.inj ((show Tryz.prog.funcNamed "fenestra/fenestralaw42.RecordChecks" = some 3 by kernel_rfl).symm.trans hf) |>.symm
  obtain rfl : fn = Tryz.f3 := (Option.some.inj (Tryz.func3.symm.trans hfn)).symm
  refine ⟨by kernel_rfl, fun j t ht => ?_⟩
  rw [Tryz.params3] at ht
  have hm : t ∈ [24, 27, 29, 5, 3] := by simpa using Array.mem_of_getElem? ht
  have hall : ([24, 27, 29, 5, 3].all fun u => !Tryz.prog.wantsStandIn u) = true := by kernel_rfl
  exact (show Tryz.prog.wantsStandIn t = false by simpa using List.all_eq_true.1 hall t hm)
theorem card : Rows.RecordChecksCardSaid :=
  Claim7.holds_tied_plain_at .later [] _ _ _ _ said (fun _ h => by cases h) (by kernel_rfl) (fun _ h => by cases h) recordChecks_row_tie rfl ⟨rfl, rfl⟩ (by kernel_rfl) rfl plainF (by kernel_rfl)
end RecordChecks
end Go.Proofs.YtnndmokndgnidaaGreatDoor
