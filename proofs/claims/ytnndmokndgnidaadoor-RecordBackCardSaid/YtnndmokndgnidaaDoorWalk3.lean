/- YtnndmokndgnidaaDoorWalk3. Texts of the proof of a law about recordings: a layer of abstract values above the worlds, the types, the walks of the functions that the law reaches, the law and its card. Own work of an AI agent. -/
import Derived.Test.YtnndmokndgnidaaDoorWalk2
import Derived.Test.YtnndmokndgnidaaDoorCore1
import Derived.Shelf.Strconv.ToError
import Derived.Test.YtnndmokndgnidaaDoorShelf
import Derived.Test.YtnndmokndgnidaaDoorCards
import Derived.Test.YtnndmokndgnidaaDoorTie
import Derived.ProofKit
import Derived.OpenShut
import Derived.LaidMore
import Derived.Lay
import Derived.SevenTiedAt
import Derived.Stop.Joined
import Derived.Shelf.Strings.Count
set_option linter.all false
set_option linter.unusedVariables false
set_option linter.unusedSimpArgs false
namespace Go.Proofs.YtnndmokndgnidaaDoor
open Go Go.Fen
set_option linter.unusedSimpArgs false
set_option linter.unusedVariables false
attribute [local irreducible] RunX WP ACall AnyP OpA ProtL
set_option maxRecDepth 8000
def parseS (s : List UInt8) : Rec × Int :=
  if 1048576 < s.length then (zeroR, 3) else match recP s with
  | none => (zeroR, 6)
  | some r => if checkB r then (r, 0) else (zeroR, 520)
set_option maxHeartbeats 2000000 in
theorem parse (w0 : World) (hPU : PU16 w0) (S : List Blk) (s : List UInt8) (hm : ∀ r, recP s = some r → (r.items.length : Int) < 9223372036854775807) (R : AOut → List Blk → Prop) (h : R (.ret (resAV (parseS s))) S) :
    ACall Tryd.prog w0 21 [.str s] S R := by
  unfold parseS at h
  by_cases hl : 1048576 < s.length
  · rw [if_pos hl] at h
    have d1 : decide ((1048576 : Int) < (s.length : Int)) = true := by simp; omega
    clear hl hm hPU
    refine enter Tryd.func21 rfl (by decide +kernel) (by rw [Tryd.ntmps21]; simp) (by rw [Tryd.ntmps21]; decide) (fun hO => ?_); rw [Tryd.ntmps21]
    repeat' first
      | apply x_seq | apply x_skip | apply x_block | apply x_exit | apply x_ret | apply x_ops_nil | apply p_blk | apply p_exit_it | apply p_exit_hit | apply p_ret_it | apply p_ret_blk | apply p_panic_it | apply p_panic_blk | apply p_end
      | (apply p_exit_miss; (focus rfl))
      | (apply x_region; simp only [List.toList_toArray])
      | (apply x_step0; (focus rfl); (focus (simp only [go_sem, *]; (try rfl); done)); (focus rfl); simp only [putA])
      | (apply x_panic; (focus (simp only [go_sem, *]; (try rfl); done)); (focus rfl); (focus (simp only [go_sem, *]; (try rfl); done)))
      | (apply x_step; (iterate 2 (focus (simp only [go_sem, *]; (try rfl); done))); (focus rfl); simp only [putA])
      | (apply x_unwanted; (focus (simp only [go_sem, *]; (try rfl); done)); (focus rfl); simp only [putA])
      | (apply x_condT; (focus (simp only [go_sem, *]; (try rfl); done)))
      | (apply x_condF; (focus (simp only [go_sem, *]; (try rfl); done)))
      | (apply x_guardS; (focus rfl); (fail_if_success (focus (show _ = some true; (focus (simp only [go_sem, *]; (try rfl); done))))); (focus (simp only [go_sem, *]; (try rfl); done)); all_goals (intro hb; try simp only [Bool.not_eq_true', Bool.not_eq_false'] at hb))
      | (apply x_condS; (focus (simp only [go_sem, *]; (try rfl); done)); all_goals (intro hb; try simp only [Bool.not_eq_true', Bool.not_eq_false'] at hb))
    (apply f_ret; iterate 7 (focus (simp only [go_sem, *, Tryd.results21]; (try rfl); done)))
    exact h
  rw [if_neg hl] at h
  have d1 : decide ((1048576 : Int) < (s.length : Int)) = false := by simp; omega
  have hrec := fun S' a ha R hR hF => recordingT w0 hPU S' a s (by omega) ha R hR hF
  cases hp : recP s with
  | none =>
    rw [hp] at h
    have t1 : ∀ S' a, S'[a]? = some (.cells [.str s]) → ∀ R : AOut → List Blk → Prop, (∀ r, R (.ret (.tup [zeroR.av, .bool false])) (S'.set a (.cells [.str r]))) → ACall Tryd.prog w0 42 [.own a 0] S' R := by
      intro S' a ha R hF
      exact hrec S' a ha R (by intro x hx; rw [hp] at hx; cases hx) (fun _ => hF)
    clear hrec hp hl hm hPU
    refine enter Tryd.func21 rfl (by decide +kernel) (by rw [Tryd.ntmps21]; simp) (by rw [Tryd.ntmps21]; decide) (fun hO => ?_); rw [Tryd.ntmps21]
    repeat' first
      | apply x_seq | apply x_skip | apply x_block | apply x_exit | apply x_ret | apply x_ops_nil | apply p_blk | apply p_exit_it | apply p_exit_hit | apply p_ret_it | apply p_ret_blk | apply p_panic_it | apply p_panic_blk | apply p_end
      | (apply p_exit_miss; (focus rfl))
      | (apply x_region; simp only [List.toList_toArray])
      | (apply x_step0; (focus rfl); (focus (simp only [go_sem, *]; (try rfl); done)); (focus rfl); simp only [putA])
      | (apply x_callA []; (focus (simp only [go_sem, *]; (try rfl); done)); (focus rfl); (focus (simp only [go_sem, *]; (try rfl); done)); (focus rfl); (iterate 2 (focus (simp only [go_sem, *]; (try rfl); done))); (first | (apply t1; (focus (simp only [go_sem, *]; (try rfl); done)))); simp only [afterCall, putA])
      | (apply x_panic; (focus (simp only [go_sem, *]; (try rfl); done)); (focus rfl); (focus (simp only [go_sem, *]; (try rfl); done)))
      | (apply x_step; (iterate 2 (focus (simp only [go_sem, *]; (try rfl); done))); (focus rfl); simp only [putA])
      | (apply x_unwanted; (focus (simp only [go_sem, *]; (try rfl); done)); (focus rfl); simp only [putA])
      | (apply x_condT; (focus (simp only [go_sem, *]; (try rfl); done)))
      | (apply x_condF; (focus (simp only [go_sem, *]; (try rfl); done)))
      | (apply x_guardS; (focus rfl); (fail_if_success (focus (show _ = some true; (focus (simp only [go_sem, *]; (try rfl); done))))); (focus (simp only [go_sem, *]; (try rfl); done)); all_goals (intro hb; try simp only [Bool.not_eq_true', Bool.not_eq_false'] at hb))
      | (apply x_condS; (focus (simp only [go_sem, *]; (try rfl); done)); all_goals (intro hb; try simp only [Bool.not_eq_true', Bool.not_eq_false'] at hb))
    intro rr
    repeat' first
      | apply x_seq | apply x_skip | apply x_block | apply x_exit | apply x_ret | apply x_ops_nil | apply p_blk | apply p_exit_it | apply p_exit_hit | apply p_ret_it | apply p_ret_blk | apply p_panic_it | apply p_panic_blk | apply p_end
      | (apply p_exit_miss; (focus rfl))
      | (apply x_region; simp only [List.toList_toArray])
      | (apply x_step0; (focus rfl); (focus (simp only [go_sem, *, zeroR, Rec.av]; (try rfl); done)); (focus rfl); simp only [putA])
      | (apply x_panic; (focus (simp only [go_sem, *, zeroR, Rec.av]; (try rfl); done)); (focus rfl); (focus (simp only [go_sem, *, zeroR, Rec.av]; (try rfl); done)))
      | (apply x_step; (iterate 2 (focus (simp only [go_sem, *, zeroR, Rec.av]; (try rfl); done))); (focus rfl); simp only [putA])
      | (apply x_unwanted; (focus (simp only [go_sem, *, zeroR, Rec.av]; (try rfl); done)); (focus rfl); simp only [putA])
      | (apply x_condT; (focus (simp only [go_sem, *, zeroR, Rec.av]; (try rfl); done)))
      | (apply x_condF; (focus (simp only [go_sem, *, zeroR, Rec.av]; (try rfl); done)))
      | (apply x_guardS; (focus rfl); (fail_if_success (focus (show _ = some true; (focus (simp only [go_sem, *, zeroR, Rec.av]; (try rfl); done))))); (focus (simp only [go_sem, *, zeroR, Rec.av]; (try rfl); done)); all_goals (intro hb; try simp only [Bool.not_eq_true', Bool.not_eq_false'] at hb))
      | (apply x_condS; (focus (simp only [go_sem, *, zeroR, Rec.av]; (try rfl); done)); all_goals (intro hb; try simp only [Bool.not_eq_true', Bool.not_eq_false'] at hb))
    (apply f_ret; iterate 7 (focus (simp only [go_sem, *, Tryd.results21]; (try rfl); done)))
    exact h
  | some r =>
    rw [hp] at h
    simp only at h
    have hck := fun S' => check w0 S' r (hm r hp)
    have t1 : ∀ S' a, S'[a]? = some (.cells [.str s]) → ∀ R : AOut → List Blk → Prop, (∀ q, R (.ret (.tup [r.av, .bool true])) (S'.set a (.cells [.str q]))) → ACall Tryd.prog w0 42 [.own a 0] S' R := by
      intro S' a ha R hF
      exact hrec S' a ha R (by intro x hx; rw [hp] at hx; cases hx; exact hF) (by intro hn; rw [hp] at hn; cases hn)
    clear hrec hp hl hm hPU
    cases hc : checkB r with
    | true =>
      simp only [hc, if_true] at h hck
      unfold Rec.av at t1 hck
      refine enter Tryd.func21 rfl (by decide +kernel) (by rw [Tryd.ntmps21]; simp) (by rw [Tryd.ntmps21]; decide) (fun hO => ?_); rw [Tryd.ntmps21]
      repeat' first
        | apply x_seq | apply x_skip | apply x_block | apply x_exit | apply x_ret | apply x_ops_nil | apply p_blk | apply p_exit_it | apply p_exit_hit | apply p_ret_it | apply p_ret_blk | apply p_panic_it | apply p_panic_blk | apply p_end
        | (apply p_exit_miss; (focus rfl))
        | (apply x_region; simp only [List.toList_toArray])
        | (apply x_step0; (focus rfl); (focus (simp only [go_sem, *]; (try rfl); done)); (focus rfl); simp only [putA])
        | (apply x_callA []; (focus (simp only [go_sem, *]; (try rfl); done)); (focus rfl); (focus (simp only [go_sem, *]; (try rfl); done)); (focus rfl); (iterate 2 (focus (simp only [go_sem, *]; (try rfl); done))); (first | (apply t1; (focus (simp only [go_sem, *]; (try rfl); done)))); simp only [afterCall, putA])
        | (apply x_panic; (focus (simp only [go_sem, *]; (try rfl); done)); (focus rfl); (focus (simp only [go_sem, *]; (try rfl); done)))
        | (apply x_step; (iterate 2 (focus (simp only [go_sem, *]; (try rfl); done))); (focus rfl); simp only [putA])
        | (apply x_unwanted; (focus (simp only [go_sem, *]; (try rfl); done)); (focus rfl); simp only [putA])
        | (apply x_condT; (focus (simp only [go_sem, *]; (try rfl); done)))
        | (apply x_condF; (focus (simp only [go_sem, *]; (try rfl); done)))
        | (apply x_guardS; (focus rfl); (fail_if_success (focus (show _ = some true; (focus (simp only [go_sem, *]; (try rfl); done))))); (focus (simp only [go_sem, *]; (try rfl); done)); all_goals (intro hb; try simp only [Bool.not_eq_true', Bool.not_eq_false'] at hb))
        | (apply x_condS; (focus (simp only [go_sem, *]; (try rfl); done)); all_goals (intro hb; try simp only [Bool.not_eq_true', Bool.not_eq_false'] at hb))
      intro rr
      repeat' first
        | apply x_seq | apply x_skip | apply x_block | apply x_exit | apply x_ret | apply x_ops_nil | apply p_blk | apply p_exit_it | apply p_exit_hit | apply p_ret_it | apply p_ret_blk | apply p_panic_it | apply p_panic_blk | apply p_end
        | (apply p_exit_miss; (focus rfl))
        | (apply x_region; simp only [List.toList_toArray])
        | (apply x_step0; (focus rfl); (focus (simp only [go_sem, *]; (try rfl); done)); (focus rfl); simp only [putA])
        | (apply x_callA []; (focus (simp only [go_sem, *]; (try rfl); done)); (focus rfl); (focus (simp only [go_sem, *]; (try rfl); done)); (focus rfl); (iterate 2 (focus (simp only [go_sem, *]; (try rfl); done))); (first | (apply hck)); simp only [afterCall, putA])
        | (apply x_panic; (focus (simp only [go_sem, *]; (try rfl); done)); (focus rfl); (focus (simp only [go_sem, *]; (try rfl); done)))
        | (apply x_step; (iterate 2 (focus (simp only [go_sem, *]; (try rfl); done))); (focus rfl); simp only [putA])
        | (apply x_unwanted; (focus (simp only [go_sem, *]; (try rfl); done)); (focus rfl); simp only [putA])
        | (apply x_condT; (focus (simp only [go_sem, *]; (try rfl); done)))
        | (apply x_condF; (focus (simp only [go_sem, *]; (try rfl); done)))
        | (apply x_guardS; (focus rfl); (fail_if_success (focus (show _ = some true; (focus (simp only [go_sem, *]; (try rfl); done))))); (focus (simp only [go_sem, *]; (try rfl); done)); all_goals (intro hb; try simp only [Bool.not_eq_true', Bool.not_eq_false'] at hb))
        | (apply x_condS; (focus (simp only [go_sem, *]; (try rfl); done)); all_goals (intro hb; try simp only [Bool.not_eq_true', Bool.not_eq_false'] at hb))
      (apply f_ret; iterate 7 (focus (simp only [go_sem, *, Tryd.results21]; (try rfl); done)))
      exact h
    | false =>
      simp only [hc, Bool.false_eq_true, if_false] at h hck
      unfold Rec.av at t1 hck
      refine enter Tryd.func21 rfl (by decide +kernel) (by rw [Tryd.ntmps21]; simp) (by rw [Tryd.ntmps21]; decide) (fun hO => ?_); rw [Tryd.ntmps21]
      repeat' first
        | apply x_seq | apply x_skip | apply x_block | apply x_exit | apply x_ret | apply x_ops_nil | apply p_blk | apply p_exit_it | apply p_exit_hit | apply p_ret_it | apply p_ret_blk | apply p_panic_it | apply p_panic_blk | apply p_end
        | (apply p_exit_miss; (focus rfl))
        | (apply x_region; simp only [List.toList_toArray])
        | (apply x_step0; (focus rfl); (focus (simp only [go_sem, *]; (try rfl); done)); (focus rfl); simp only [putA])
        | (apply x_callA []; (focus (simp only [go_sem, *]; (try rfl); done)); (focus rfl); (focus (simp only [go_sem, *]; (try rfl); done)); (focus rfl); (iterate 2 (focus (simp only [go_sem, *]; (try rfl); done))); (first | (apply t1; (focus (simp only [go_sem, *]; (try rfl); done)))); simp only [afterCall, putA])
        | (apply x_panic; (focus (simp only [go_sem, *]; (try rfl); done)); (focus rfl); (focus (simp only [go_sem, *]; (try rfl); done)))
        | (apply x_step; (iterate 2 (focus (simp only [go_sem, *]; (try rfl); done))); (focus rfl); simp only [putA])
        | (apply x_unwanted; (focus (simp only [go_sem, *]; (try rfl); done)); (focus rfl); simp only [putA])
        | (apply x_condT; (focus (simp only [go_sem, *]; (try rfl); done)))
        | (apply x_condF; (focus (simp only [go_sem, *]; (try rfl); done)))
        | (apply x_guardS; (focus rfl); (fail_if_success (focus (show _ = some true; (focus (simp only [go_sem, *]; (try rfl); done))))); (focus (simp only [go_sem, *]; (try rfl); done)); all_goals (intro hb; try simp only [Bool.not_eq_true', Bool.not_eq_false'] at hb))
        | (apply x_condS; (focus (simp only [go_sem, *]; (try rfl); done)); all_goals (intro hb; try simp only [Bool.not_eq_true', Bool.not_eq_false'] at hb))
      intro rr
      repeat' first
        | apply x_seq | apply x_skip | apply x_block | apply x_exit | apply x_ret | apply x_ops_nil | apply p_blk | apply p_exit_it | apply p_exit_hit | apply p_ret_it | apply p_ret_blk | apply p_panic_it | apply p_panic_blk | apply p_end
        | (apply p_exit_miss; (focus rfl))
        | (apply x_region; simp only [List.toList_toArray])
        | (apply x_step0; (focus rfl); (focus (simp only [go_sem, *]; (try rfl); done)); (focus rfl); simp only [putA])
        | (apply x_callA []; (focus (simp only [go_sem, *]; (try rfl); done)); (focus rfl); (focus (simp only [go_sem, *]; (try rfl); done)); (focus rfl); (iterate 2 (focus (simp only [go_sem, *]; (try rfl); done))); (first | (apply hck)); simp only [afterCall, putA])
        | (apply x_panic; (focus (simp only [go_sem, *]; (try rfl); done)); (focus rfl); (focus (simp only [go_sem, *]; (try rfl); done)))
        | (apply x_step; (iterate 2 (focus (simp only [go_sem, *]; (try rfl); done))); (focus rfl); simp only [putA])
        | (apply x_unwanted; (focus (simp only [go_sem, *]; (try rfl); done)); (focus rfl); simp only [putA])
        | (apply x_condT; (focus (simp only [go_sem, *]; (try rfl); done)))
        | (apply x_condF; (focus (simp only [go_sem, *]; (try rfl); done)))
        | (apply x_guardS; (focus rfl); (fail_if_success (focus (show _ = some true; (focus (simp only [go_sem, *]; (try rfl); done))))); (focus (simp only [go_sem, *]; (try rfl); done)); all_goals (intro hb; try simp only [Bool.not_eq_true', Bool.not_eq_false'] at hb))
        | (apply x_condS; (focus (simp only [go_sem, *]; (try rfl); done)); all_goals (intro hb; try simp only [Bool.not_eq_true', Bool.not_eq_false'] at hb))
      (apply f_ret; iterate 7 (focus (simp only [go_sem, *, Tryd.results21]; (try rfl); done)))
      exact h
end Go.Proofs.YtnndmokndgnidaaDoor
namespace Go.Proofs.YtnndmokndgnidaaDoor
open Go Go.Fen
set_option linter.unusedSimpArgs false
set_option linter.unusedVariables false
attribute [local irreducible] RunX WP ACall AnyP OpA ProtL
set_option maxRecDepth 8000
set_option maxHeartbeats 1000000 in
theorem uptoLaw (w0 : World) (S : List Blk) (r : Rec) (hm : (r.items.length : Int) < 9223372036854775807) (t k : Int) (n : Nat) (hc : checkB r = true) (hn : UpTo r.items t n) (R : AOut → List Blk → Prop) (h : R (.ret (.bool ((n : Int) == k))) S) :
    ACall Tryd.prog w0 30 [r.av, .int .i64 t, .int .i64 k] S R := by
  have hu := fun S' => uptoR w0 S' r hm t n hc hn
  clear hm hc hn
  unfold Rec.av at hu ⊢
  cases hk : ((n : Int) == k) with
  | true =>
    rw [hk] at h
    refine enter Tryd.func30 rfl (by decide +kernel) (by rw [Tryd.ntmps30]; simp) (by rw [Tryd.ntmps30]; decide) (fun hO => ?_); rw [Tryd.ntmps30]
    repeat' first
      | apply x_seq | apply x_skip | apply x_block | apply x_exit | apply x_ret | apply x_ops_nil | apply p_blk | apply p_exit_it | apply p_exit_hit | apply p_ret_it | apply p_ret_blk | apply p_panic_it | apply p_panic_blk | apply p_end
      | (apply p_exit_miss; (focus rfl))
      | (apply x_region; simp only [List.toList_toArray])
      | (apply x_step0; (focus rfl); (focus (simp only [go_sem, *]; (try rfl); done)); (focus rfl); simp only [putA])
      | (apply x_callA []; (focus (simp only [go_sem, *]; (try rfl); done)); (focus rfl); (focus (simp only [go_sem, *]; (try rfl); done)); (focus rfl); (iterate 2 (focus (simp only [go_sem, *]; (try rfl); done))); (first | (apply hu)); simp only [afterCall, putA])
      | (apply x_panic; (focus (simp only [go_sem, *]; (try rfl); done)); (focus rfl); (focus (simp only [go_sem, *]; (try rfl); done)))
      | (apply x_step; (iterate 2 (focus (simp only [go_sem, *]; (try rfl); done))); (focus rfl); simp only [putA])
      | (apply x_unwanted; (focus (simp only [go_sem, *]; (try rfl); done)); (focus rfl); simp only [putA])
      | (apply x_condT; (focus (simp only [go_sem, *]; (try rfl); done)))
      | (apply x_condF; (focus (simp only [go_sem, *]; (try rfl); done)))
      | (apply x_guardS; (focus rfl); (fail_if_success (focus (show _ = some true; (focus (simp only [go_sem, *]; (try rfl); done))))); (focus (simp only [go_sem, *]; (try rfl); done)); all_goals (intro hb; try simp only [Bool.not_eq_true', Bool.not_eq_false'] at hb))
      | (apply x_condS; (focus (simp only [go_sem, *]; (try rfl); done)); all_goals (intro hb; try simp only [Bool.not_eq_true', Bool.not_eq_false'] at hb))
    (apply f_ret; iterate 7 (focus (simp only [go_sem, *, Tryd.results30]; (try rfl); done)))
    exact h
  | false =>
    rw [hk] at h
    refine enter Tryd.func30 rfl (by decide +kernel) (by rw [Tryd.ntmps30]; simp) (by rw [Tryd.ntmps30]; decide) (fun hO => ?_); rw [Tryd.ntmps30]
    repeat' first
      | apply x_seq | apply x_skip | apply x_block | apply x_exit | apply x_ret | apply x_ops_nil | apply p_blk | apply p_exit_it | apply p_exit_hit | apply p_ret_it | apply p_ret_blk | apply p_panic_it | apply p_panic_blk | apply p_end
      | (apply p_exit_miss; (focus rfl))
      | (apply x_region; simp only [List.toList_toArray])
      | (apply x_step0; (focus rfl); (focus (simp only [go_sem, *]; (try rfl); done)); (focus rfl); simp only [putA])
      | (apply x_callA []; (focus (simp only [go_sem, *]; (try rfl); done)); (focus rfl); (focus (simp only [go_sem, *]; (try rfl); done)); (focus rfl); (iterate 2 (focus (simp only [go_sem, *]; (try rfl); done))); (first | (apply hu)); simp only [afterCall, putA])
      | (apply x_panic; (focus (simp only [go_sem, *]; (try rfl); done)); (focus rfl); (focus (simp only [go_sem, *]; (try rfl); done)))
      | (apply x_step; (iterate 2 (focus (simp only [go_sem, *]; (try rfl); done))); (focus rfl); simp only [putA])
      | (apply x_unwanted; (focus (simp only [go_sem, *]; (try rfl); done)); (focus rfl); simp only [putA])
      | (apply x_condT; (focus (simp only [go_sem, *]; (try rfl); done)))
      | (apply x_condF; (focus (simp only [go_sem, *]; (try rfl); done)))
      | (apply x_guardS; (focus rfl); (fail_if_success (focus (show _ = some true; (focus (simp only [go_sem, *]; (try rfl); done))))); (focus (simp only [go_sem, *]; (try rfl); done)); all_goals (intro hb; try simp only [Bool.not_eq_true', Bool.not_eq_false'] at hb))
      | (apply x_condS; (focus (simp only [go_sem, *]; (try rfl); done)); all_goals (intro hb; try simp only [Bool.not_eq_true', Bool.not_eq_false'] at hb))
    (apply f_ret; iterate 7 (focus (simp only [go_sem, *, Tryd.results30]; (try rfl); done)))
    exact h
end Go.Proofs.YtnndmokndgnidaaDoor
namespace Go.Proofs.YtnndmokndgnidaaDoor
open Go Go.Fen
set_option linter.unusedSimpArgs false
set_option linter.unusedVariables false
attribute [local irreducible] RunX WP ACall AnyP OpA ProtL
set_option maxRecDepth 8000
theorem chap_check : checkB chapR = true := by decide +kernel
theorem chap_print : printS chapR = chapS := by decide +kernel
theorem chap_parse : parseS chapS = (chapR, 0) := by decide +kernel
theorem chap_cut1 : cutS chapR 120 200 = (⟨10, 3, [⟨30, 3, 20, 4, []⟩, ⟨0, 4, 0, 0, [109]⟩]⟩, 0) := by decide +kernel
theorem chap_cut2 : cutS chapR 200 300 = (⟨20, 4, []⟩, 0) := by decide +kernel
theorem chap_cut3 : cutS chapR 0 150 = (⟨10, 3, [⟨100, 1, 0, 0, [97, 10]⟩]⟩, 0) := by decide +kernel
theorem chap_long : tmz chapR.items chapR.items.length = 150 := by decide +kernel
theorem chap_fast : (fasterS chapR 1 3).2 = 0 ∧ (fasterS chapR 1 3).1.items.map It.wait = [33, 17, 0] := by decide +kernel
theorem chap_idle : (idleS chapR 60).2 = 0 ∧ (idleS chapR 60).1.items.map It.wait = [60, 50, 0] := by decide +kernel
theorem upto_mk {l : List It} {t : Int} {n : Nat} (h : ((List.range n).all fun j => decide (tmz l (j + 1) ≤ t)) = true) (h2 : n ≤ l.length) (h3 : n < l.length → t < tmz l (n + 1)) : UpTo l t n := by
  refine ⟨fun j hj => ?_, h2, h3⟩
  have := List.all_eq_true.1 h j (List.mem_range.2 hj)
  simpa using this
theorem chap_up1 : UpTo chapR.items 100 1 := upto_mk (by decide +kernel) (by decide +kernel) (by decide +kernel)
theorem chap_up2 : UpTo chapR.items 149 1 := upto_mk (by decide +kernel) (by decide +kernel) (by decide +kernel)
theorem chap_up3 : UpTo chapR.items 150 3 := upto_mk (by decide +kernel) (by decide +kernel) (by decide +kernel)
theorem chap_up4 : UpTo chapR.items (-1) 0 := upto_mk (by decide +kernel) (by decide +kernel) (by decide +kernel)
end Go.Proofs.YtnndmokndgnidaaDoor
namespace Go.Proofs.YtnndmokndgnidaaDoor
open Go Go.Fen
set_option linter.unusedSimpArgs false
set_option linter.unusedVariables false
attribute [local irreducible] RunX WP ACall AnyP OpA ProtL
set_option maxRecDepth 8000
theorem or32 (c : UInt8) : IntKind.u8.wrap (↑(BitVec.ofInt IntKind.u8.bits (c.toNat : Int) ||| BitVec.ofInt IntKind.u8.bits 32).toNat) = (((c ||| 32).toNat : Nat) : Int) := by
  have : ∀ n : Nat, n < 256 → IntKind.u8.wrap (↑(BitVec.ofInt IntKind.u8.bits (n : Int) ||| BitVec.ofInt IntKind.u8.bits 32).toNat) = (((UInt8.ofNat n ||| 32).toNat : Nat) : Int) := by decide +kernel
  have h := this c.toNat c.toNat_lt
  rwa [UInt8.ofNat_toNat] at h
set_option maxHeartbeats 400000 in
theorem lower (w0 : World) (S : List Blk) (c : UInt8) (R : AOut → List Blk → Prop) (h : R (.ret (.int .u8 ((c ||| 32).toNat : Nat))) S) : ACall Tryd.prog w0 102 [.int .u8 c.toNat] S R := by
  have g := or32 c
  simp only [IntKind.bits] at g
  refine enter Tryd.func102 rfl (by decide +kernel) (by rw [Tryd.ntmps102]; simp) (by rw [Tryd.ntmps102]; decide) (fun hO => ?_); rw [Tryd.ntmps102]
  repeat' first
    | apply x_seq | apply x_skip | apply x_block | apply x_exit | apply x_ret | apply x_ops_nil | apply p_blk | apply p_exit_it | apply p_exit_hit | apply p_ret_it | apply p_ret_blk | apply p_panic_it | apply p_panic_blk | apply p_end
    | (apply p_exit_miss; (focus rfl))
    | (apply x_region; simp only [List.toList_toArray])
    | (apply x_step0; (focus rfl); (focus (simp only [go_sem, *]; (try rfl); done)); (focus rfl); simp only [putA])
    | (apply x_panic; (focus (simp only [go_sem, *]; (try rfl); done)); (focus rfl); (focus (simp only [go_sem, *]; (try rfl); done)))
    | (apply x_step; (iterate 2 (focus (simp only [go_sem, *]; (try rfl); done))); (focus rfl); simp only [putA])
    | (apply x_unwanted; (focus (simp only [go_sem, *]; (try rfl); done)); (focus rfl); simp only [putA])
    | (apply x_condT; (focus (simp only [go_sem, *]; (try rfl); done)))
    | (apply x_condF; (focus (simp only [go_sem, *]; (try rfl); done)))
    | (apply x_guardS; (focus rfl); (fail_if_success (focus (show _ = some true; (focus (simp only [go_sem, *]; (try rfl); done))))); (focus (simp only [go_sem, *]; (try rfl); done)); all_goals (intro hb; try simp only [Bool.not_eq_true', Bool.not_eq_false'] at hb))
    | (apply x_condS; (focus (simp only [go_sem, *]; (try rfl); done)); all_goals (intro hb; try simp only [Bool.not_eq_true', Bool.not_eq_false'] at hb))
  (apply f_ret; iterate 7 (focus (simp only [go_sem, *, Tryd.results102]; (try rfl); done)))
  exact h
def lowN (b : UInt8) : Nat := (b ||| 32).toNat
def dv (b : UInt8) : Option Nat := if 48 ≤ b.toNat ∧ b.toNat ≤ 57 then some (b.toNat - 48) else if 97 ≤ lowN b ∧ lowN b ≤ 122 then some (lowN b - 87) else none
theorem dv_hex (b : UInt8) : hexD1 b = (dv b).bind fun d => if d < 16 then some d else none := by
  have : ∀ n : Nat, n < 256 → hexD1 (UInt8.ofNat n) = (dv (UInt8.ofNat n)).bind fun d => if d < 16 then some d else none := by decide +kernel
  have h := this b.toNat b.toNat_lt
  rwa [UInt8.ofNat_toNat] at h
theorem lower2 (w0 : World) (S : List Blk) (c : UInt8) (R : AOut → List Blk → Prop) (h : R (.ret (.int .u8 (lowN c : Nat))) S) : ACall Tryd.prog w0 102 [.int .u8 c.toNat] S R := lower w0 S c R h
theorem lowN_lt (c : UInt8) : lowN c < 256 := (c ||| 32).toNat_lt
def synV : AV := .ifc 144 (.int .i64 2)
def puS (b1 b2 : UInt8) (i acc : Nat) : Prop := (i = 0 ∧ acc = 0) ∨ (i = 1 ∧ hexD1 b1 = some acc) ∨ (i = 2 ∧ hexV b1 b2 = some acc)
theorem pu_step {b1 b2 : UInt8} {i acc : Nat} (hp : (i = 0 ∧ acc = 0) ∨ (i = 1 ∧ hexD1 b1 = some acc)) : ∃ b : UInt8, [AV.int .u8 b1.toNat, AV.int .u8 b2.toNat][i]? = some (.int .u8 b.toNat) ∧ i < 2 ∧ acc < 16 ∧ (hexD1 b = none → hexV b1 b2 = none) ∧ (∀ d, hexD1 b = some d → puS b1 b2 (i + 1) (acc * 16 + d)) := by
  rcases hp with ⟨rfl, rfl⟩ | ⟨rfl, ha⟩
  · exact ⟨b1, rfl, by omega, by omega, fun h => by simp [hexV, h], fun d h => .inr (.inl ⟨rfl, by simpa using h⟩)⟩
  · refine ⟨b2, rfl, by omega, hexD1_lt ha, fun h => by simp [hexV, ha, h], fun d h => .inr (.inr ⟨rfl, ?_⟩)⟩
    simp [hexV, ha, h]; try omega
set_option maxHeartbeats 4000000 in
theorem puIn (w0 : World) (S : List Blk) (b1 b2 : UInt8) (R : AOut → List Blk → Prop) (h : R (.ret (match hexV b1 b2 with | some v => .tup [.int .u64 v, .inil] | none => .tup [.int .u64 0, synV])) S) :
    ACall Tryd.prog w0 91 [.str [b1, b2], .int .i64 16, .int .i64 8] S R := by
  refine enter Tryd.func91 rfl (by decide +kernel) (by rw [Tryd.ntmps91]; simp) (by rw [Tryd.ntmps91]; decide) (fun hO => ?_); rw [Tryd.ntmps91]
  repeat' first
    | apply x_seq | apply x_skip | apply x_block | apply x_exit | apply x_ret | apply x_ops_nil | apply p_blk | apply p_exit_it | apply p_exit_hit | apply p_ret_it | apply p_ret_blk | apply p_panic_it | apply p_panic_blk | apply p_end
    | (apply p_exit_miss; (focus rfl))
    | (apply x_region; simp only [List.toList_toArray])
    | (apply x_step0; (focus rfl); (focus (simp only [go_sem, *]; (try rfl); done)); (focus rfl); simp only [putA])
    | (apply x_panic; (focus (simp only [go_sem, *]; (try rfl); done)); (focus rfl); (focus (simp only [go_sem, *]; (try rfl); done)))
    | (apply x_step; (iterate 2 (focus (simp only [go_sem, *]; (try rfl); done))); (focus rfl); simp only [putA])
    | (apply x_unwanted; (focus (simp only [go_sem, *]; (try rfl); done)); (focus rfl); simp only [putA])
    | (apply x_condT; (focus (simp only [go_sem, *]; (try rfl); done)))
    | (apply x_condF; (focus (simp only [go_sem, *]; (try rfl); done)))
    | (apply x_guardS; (focus rfl); (fail_if_success (focus (show _ = some true; (focus (simp only [go_sem, *]; (try rfl); done))))); (focus (simp only [go_sem, *]; (try rfl); done)); all_goals (intro hb; try simp only [Bool.not_eq_true', Bool.not_eq_false'] at hb))
    | (apply x_condS; (focus (simp only [go_sem, *]; (try rfl); done)); all_goals (intro hb; try simp only [Bool.not_eq_true', Bool.not_eq_false'] at hb))
  apply x_bytes
  · (simp only [go_sem, *]; try rfl)
  · rfl
  · (simp only [go_sem, *]; try rfl)
  · (simp only [go_sem, *]; try rfl)
  · (simp only [go_sem, *]; try rfl)
  · (simp only [go_sem, *]; try rfl)
  · rfl
  simp only [putA, List.map_cons, List.map_nil, byteAV]
  repeat' first
    | apply x_seq | apply x_skip | apply x_block | apply x_exit | apply x_ret | apply x_ops_nil | apply p_blk | apply p_exit_it | apply p_exit_hit | apply p_ret_it | apply p_ret_blk | apply p_panic_it | apply p_panic_blk | apply p_end
    | (apply p_exit_miss; (focus rfl))
    | (apply x_region; simp only [List.toList_toArray])
    | (apply x_step0; (focus rfl); (focus (simp only [go_sem, *]; (try rfl); done)); (focus rfl); simp only [putA])
    | (apply x_panic; (focus (simp only [go_sem, *]; (try rfl); done)); (focus rfl); (focus (simp only [go_sem, *]; (try rfl); done)))
    | (apply x_step; (iterate 2 (focus (simp only [go_sem, *]; (try rfl); done))); (focus rfl); simp only [putA])
    | (apply x_unwanted; (focus (simp only [go_sem, *]; (try rfl); done)); (focus rfl); simp only [putA])
    | (apply x_condT; (focus (simp only [go_sem, *]; (try rfl); done)))
    | (apply x_condF; (focus (simp only [go_sem, *]; (try rfl); done)))
    | (apply x_guardS; (focus rfl); (fail_if_success (focus (show _ = some true; (focus (simp only [go_sem, *]; (try rfl); done))))); (focus (simp only [go_sem, *]; (try rfl); done)); all_goals (intro hb; try simp only [Bool.not_eq_true', Bool.not_eq_false'] at hb))
    | (apply x_condS; (focus (simp only [go_sem, *]; (try rfl); done)); all_goals (intro hb; try simp only [Bool.not_eq_true', Bool.not_eq_false'] at hb))
  have hffw : IntKind.u64.wrap (IntKind.u64.wrap (1 * 2 ^ min (IntKind.u64.wrap 8).toNat 64) - 1) = 255 := by decide +kernel
  refine x_ind (fun (p : Nat × Nat) env S' => puS b1 b2 p.1 p.2 ∧ env 1000000 = .dfr [] ∧ env 1 = .int .i64 16 ∧ env 8 = .bool false ∧ env 9 = .str [b1, b2] ∧ env 10 = .int .u64 1152921504606846976 ∧ env 11 = .int .u64 255 ∧ env 12 = .bool false ∧ env 13 = .int .u64 p.2 ∧
    env 99 = .sval false [.int .u8 b1.toNat, .int .u8 b2.toNat] ∧ env 100 = .int .i64 2 ∧ env 101 = .int .i64 p.1 ∧ S' = S) (fun p => 2 - p.1) (0, 0) ?_ ?_
  · exact ⟨.inl ⟨rfl, rfl⟩, by (simp only [go_sem, *]; try rfl), by (simp only [go_sem, *]; try rfl), by (simp only [go_sem, *]; try rfl), by (simp only [go_sem, *]; try rfl), by (simp only [go_sem, *]; try rfl), by (simp only [go_sem, *]; try rfl), by (simp only [go_sem, *]; try rfl), by (simp only [go_sem, *]; try rfl), by (simp only [go_sem, *]; try rfl), by (simp only [go_sem, *]; try rfl), by (simp only [go_sem, *]; try rfl), rfl⟩
  · rintro ⟨i, acc⟩ env S' ⟨hp, e0, f1, f8, f9, f10, f11, f12, f13, f99, f100, f101, rfl⟩ IH
    have HI := Lib.hid IH
    have hw16 : IntKind.u8.wrap 16 = 16 := by decide
    have hw16' : IntKind.u64.wrap 16 = 16 := by decide
    have hlw := lower2 w0
    clear IH hffw
    simp only at f13 f101
    rcases or_assoc.2 hp with hp | ⟨rfl, ha⟩
    · have hps := pu_step (b2 := b2) hp
      clear hp
      obtain ⟨b, hb, hlt, hacc, hnone, hsome⟩ := hps
      have h1 : decide ((i : Int) < 2) = true := by simp; omega
      have hwi : IntKind.i64.wrap ((i : Int) + 1) = ((i + 1 : Nat) : Int) := by rw [IntWalk.i64_in _ (by omega)]; rfl
      have Hlt := Lib.hid hlt
      have d5 : decide ((1152921504606846976 : Int) ≤ (acc : Int)) = false := by simp; omega
      have w5 : IntKind.u64.wrap ((acc : Int) * 16) = ((acc * 16 : Nat) : Int) := by rw [IntWalk.u64_in _ (by omega)]; omega
      have key : ∀ d : Nat, d < 16 → IntKind.u64.wrap (d : Int) = (d : Int) ∧ IntKind.u64.wrap (((acc * 16 : Nat) : Int) + (d : Int)) = ((acc * 16 + d : Nat) : Int) ∧ decide (((acc * 16 + d : Nat) : Int) < ((acc * 16 : Nat) : Int)) = false ∧ decide ((255 : Int) < ((acc * 16 + d : Nat) : Int)) = false := by
        intro d hd
        refine ⟨IntWalk.u64_in _ (by omega), by rw [IntWalk.u64_in _ (by omega)]; omega, by simp; omega, by simp; omega⟩
      clear hlt hacc
      have Hnone := Lib.hid hnone
      have Hsome := Lib.hid hsome
      clear hnone hsome
      have Key := Lib.hid key
      clear key
      have hdv := dv_hex b
      by_cases c1 : 48 ≤ b.toNat ∧ b.toNat ≤ 57
      · have d1 : decide ((48 : Int) ≤ (b.toNat : Int)) = true := by simp; omega
        have d2 : decide ((b.toNat : Int) ≤ 57) = true := by simp; omega
        have d3 : ((b.toNat : Int) == 95) = false := by simp; omega
        have w1 : IntKind.u8.wrap ((b.toNat : Int) - 48) = ((b.toNat - 48 : Nat) : Int) := by rw [IntWalk.u8_in _ (by omega)]; omega
        have hd : hexD1 b = some (b.toNat - 48) := by rw [hdv]; simp [dv, c1]; omega
        have hd16 : b.toNat - 48 < 16 := by omega
        have d4 : decide ((16 : Int) ≤ ((b.toNat - 48 : Nat) : Int)) = false := by simp; omega
        clear hdv c1
        generalize hdd : b.toNat - 48 = d at *
        obtain ⟨k1, k2, k3, k4⟩ := Key.out d hd16
        have Hd := Lib.hid hd
        clear hdd hd hd16
        repeat' first
          | apply x_seq | apply x_skip | apply x_block | apply x_exit | apply x_ret | apply x_ops_nil | apply p_blk | apply p_exit_it | apply p_exit_hit | apply p_ret_it | apply p_ret_blk | apply p_panic_it | apply p_panic_blk | apply p_end
          | (apply p_exit_miss; (focus rfl))
          | (apply x_region; simp only [List.toList_toArray])
          | (apply x_step0; (focus rfl); (focus (simp only [go_sem, *]; (try rfl); done)); (focus rfl); simp only [putA])
          | (apply x_callA []; (focus (simp only [go_sem, *]; (try rfl); done)); (focus rfl); (focus (simp only [go_sem, *]; (try rfl); done)); (focus rfl); (iterate 2 (focus (simp only [go_sem, *]; (try rfl); done))); (first | (apply hlw)); simp only [afterCall, putA])
          | (apply x_panic; (focus (simp only [go_sem, *]; (try rfl); done)); (focus rfl); (focus (simp only [go_sem, *]; (try rfl); done)))
          | (apply x_step; (iterate 2 (focus (simp only [go_sem, *]; (try rfl); done))); (focus rfl); simp only [putA])
          | (apply x_unwanted; (focus (simp only [go_sem, *]; (try rfl); done)); (focus rfl); simp only [putA])
          | (apply x_condT; (focus (simp only [go_sem, *]; (try rfl); done)))
          | (apply x_condF; (focus (simp only [go_sem, *]; (try rfl); done)))
          | (apply x_guardS; (focus rfl); (fail_if_success (focus (show _ = some true; (focus (simp only [go_sem, *]; (try rfl); done))))); (focus (simp only [go_sem, *]; (try rfl); done)); all_goals (intro hb; try simp only [Bool.not_eq_true', Bool.not_eq_false'] at hb))
          | (apply x_condS; (focus (simp only [go_sem, *]; (try rfl); done)); all_goals (intro hb; try simp only [Bool.not_eq_true', Bool.not_eq_false'] at hb))
        refine HI.out (i + 1, acc * 16 + d) _ _ (by have := Hlt.out; simp only; omega) ⟨Hsome.out d Hd.out, ?_, ?_, ?_, ?_, ?_, ?_, ?_, ?_, ?_, ?_, ?_, rfl⟩
        all_goals (simp only [go_sem, *]; try rfl)
      · have hnd : (decide ((48 : Int) ≤ (b.toNat : Int)) && decide ((b.toNat : Int) ≤ 57)) = false := by
          rw [Bool.and_eq_false_iff]; simp; omega
        by_cases c2 : 97 ≤ lowN b ∧ lowN b ≤ 122
        · have e1 : decide ((97 : Int) ≤ (lowN b : Int)) = true := by simp; omega
          have e2 : decide ((lowN b : Int) ≤ 122) = true := by simp; omega
          have w1 : IntKind.u8.wrap ((lowN b : Int) - 97) = ((lowN b - 97 : Nat) : Int) := by rw [IntWalk.u8_in _ (by omega)]; omega
          have w2 : IntKind.u8.wrap (((lowN b - 97 : Nat) : Int) + 10) = ((lowN b - 87 : Nat) : Int) := by rw [IntWalk.u8_in _ (by omega)]; omega
          have hd : hexD1 b = if lowN b - 87 < 16 then some (lowN b - 87) else none := by rw [hdv]; simp only [dv, c1, c2, and_self, if_false, if_true, Option.bind_some]
          clear hdv c1 c2
          generalize lowN b - 87 = d at *
          generalize lowN b - 97 = e at *
          by_cases hd16 : d < 16
          · rw [if_pos hd16] at hd
            have d4 : decide ((16 : Int) ≤ (d : Int)) = false := by simp; omega
            obtain ⟨k1, k2, k3, k4⟩ := Key.out d hd16
            have Hd := Lib.hid hd
            clear hd hd16
            cases q1 : decide ((48 : Int) ≤ (b.toNat : Int)) <;> cases q2 : decide ((b.toNat : Int) ≤ 57) <;> cases q3 : ((b.toNat : Int) == 95) <;> simp only [q1, q2] at hnd <;> try (exfalso; cases hnd; done)
            all_goals clear hnd
            all_goals
              repeat' first
                | apply x_seq | apply x_skip | apply x_block | apply x_exit | apply x_ret | apply x_ops_nil | apply p_blk | apply p_exit_it | apply p_exit_hit | apply p_ret_it | apply p_ret_blk | apply p_panic_it | apply p_panic_blk | apply p_end
                | (apply p_exit_miss; (focus rfl))
                | (apply x_region; simp only [List.toList_toArray])
                | (apply x_step0; (focus rfl); (focus (simp only [go_sem, *]; (try rfl); done)); (focus rfl); simp only [putA])
                | (apply x_callA []; (focus (simp only [go_sem, *]; (try rfl); done)); (focus rfl); (focus (simp only [go_sem, *]; (try rfl); done)); (focus rfl); (iterate 2 (focus (simp only [go_sem, *]; (try rfl); done))); (first | (apply hlw)); simp only [afterCall, putA])
                | (apply x_panic; (focus (simp only [go_sem, *]; (try rfl); done)); (focus rfl); (focus (simp only [go_sem, *]; (try rfl); done)))
                | (apply x_step; (iterate 2 (focus (simp only [go_sem, *]; (try rfl); done))); (focus rfl); simp only [putA])
                | (apply x_unwanted; (focus (simp only [go_sem, *]; (try rfl); done)); (focus rfl); simp only [putA])
                | (apply x_condT; (focus (simp only [go_sem, *]; (try rfl); done)))
                | (apply x_condF; (focus (simp only [go_sem, *]; (try rfl); done)))
                | (apply x_guardS; (focus rfl); (fail_if_success (focus (show _ = some true; (focus (simp only [go_sem, *]; (try rfl); done))))); (focus (simp only [go_sem, *]; (try rfl); done)); all_goals (intro hb; try simp only [Bool.not_eq_true', Bool.not_eq_false'] at hb))
                | (apply x_condS; (focus (simp only [go_sem, *]; (try rfl); done)); all_goals (intro hb; try simp only [Bool.not_eq_true', Bool.not_eq_false'] at hb))
              refine HI.out (i + 1, acc * 16 + d) _ _ (by have := Hlt.out; simp only; omega) ⟨Hsome.out d Hd.out, ?_, ?_, ?_, ?_, ?_, ?_, ?_, ?_, ?_, ?_, ?_, rfl⟩
              all_goals (simp only [go_sem, *]; try rfl)
          · rw [if_neg hd16] at hd
            have d4 : decide ((16 : Int) ≤ (d : Int)) = true := by simp; omega
            rw [Hnone.out hd] at h
            clear hd hd16
            cases q1 : decide ((48 : Int) ≤ (b.toNat : Int)) <;> cases q2 : decide ((b.toNat : Int) ≤ 57) <;> cases q3 : ((b.toNat : Int) == 95) <;> simp only [q1, q2] at hnd <;> try (exfalso; cases hnd; done)
            all_goals clear hnd
            all_goals
              repeat' first
                | apply x_seq | apply x_skip | apply x_block | apply x_exit | apply x_ret | apply x_ops_nil | apply p_blk | apply p_exit_it | apply p_exit_hit | apply p_ret_it | apply p_ret_blk | apply p_panic_it | apply p_panic_blk | apply p_end
                | (apply p_exit_miss; (focus rfl))
                | (apply x_region; simp only [List.toList_toArray])
                | (apply x_step0; (focus rfl); (focus (simp only [go_sem, *]; (try rfl); done)); (focus rfl); simp only [putA])
                | (apply x_callA []; (focus (simp only [go_sem, *]; (try rfl); done)); (focus rfl); (focus (simp only [go_sem, *]; (try rfl); done)); (focus rfl); (iterate 2 (focus (simp only [go_sem, *]; (try rfl); done))); (first | (apply hlw)); simp only [afterCall, putA])
                | (apply x_panic; (focus (simp only [go_sem, *]; (try rfl); done)); (focus rfl); (focus (simp only [go_sem, *]; (try rfl); done)))
                | (apply x_step; (iterate 2 (focus (simp only [go_sem, *]; (try rfl); done))); (focus rfl); simp only [putA])
                | (apply x_unwanted; (focus (simp only [go_sem, *]; (try rfl); done)); (focus rfl); simp only [putA])
                | (apply x_condT; (focus (simp only [go_sem, *]; (try rfl); done)))
                | (apply x_condF; (focus (simp only [go_sem, *]; (try rfl); done)))
                | (apply x_guardS; (focus rfl); (fail_if_success (focus (show _ = some true; (focus (simp only [go_sem, *]; (try rfl); done))))); (focus (simp only [go_sem, *]; (try rfl); done)); all_goals (intro hb; try simp only [Bool.not_eq_true', Bool.not_eq_false'] at hb))
                | (apply x_condS; (focus (simp only [go_sem, *]; (try rfl); done)); all_goals (intro hb; try simp only [Bool.not_eq_true', Bool.not_eq_false'] at hb))
              (apply f_ret; iterate 7 (focus (simp only [go_sem, *, Tryd.results91]; (try rfl); done)))
              exact h
        · have hd : hexD1 b = none := by
            rw [hdv]; unfold dv; rw [if_neg c1, if_neg c2]; rfl
          rw [Hnone.out hd] at h
          have hle : (decide ((97 : Int) ≤ (lowN b : Int)) && decide ((lowN b : Int) ≤ 122)) = false := by
            rw [Bool.and_eq_false_iff]; simp; omega
          clear hd hdv c1 c2
          cases q1 : decide ((48 : Int) ≤ (b.toNat : Int)) <;> cases q2 : decide ((b.toNat : Int) ≤ 57) <;> cases q3 : ((b.toNat : Int) == 95) <;> simp only [q1, q2] at hnd <;> try (exfalso; cases hnd; done)
          all_goals clear hnd
          all_goals
            cases q4 : decide ((97 : Int) ≤ (lowN b : Int)) <;> cases q5 : decide ((lowN b : Int) ≤ 122) <;> simp only [q4, q5] at hle <;> try (exfalso; cases hle; done)
          all_goals clear hle
          all_goals
            repeat' first
              | apply x_seq | apply x_skip | apply x_block | apply x_exit | apply x_ret | apply x_ops_nil | apply p_blk | apply p_exit_it | apply p_exit_hit | apply p_ret_it | apply p_ret_blk | apply p_panic_it | apply p_panic_blk | apply p_end
              | (apply p_exit_miss; (focus rfl))
              | (apply x_region; simp only [List.toList_toArray])
              | (apply x_step0; (focus rfl); (focus (simp only [go_sem, *]; (try rfl); done)); (focus rfl); simp only [putA])
              | (apply x_callA []; (focus (simp only [go_sem, *]; (try rfl); done)); (focus rfl); (focus (simp only [go_sem, *]; (try rfl); done)); (focus rfl); (iterate 2 (focus (simp only [go_sem, *]; (try rfl); done))); (first | (apply hlw)); simp only [afterCall, putA])
              | (apply x_panic; (focus (simp only [go_sem, *]; (try rfl); done)); (focus rfl); (focus (simp only [go_sem, *]; (try rfl); done)))
              | (apply x_step; (iterate 2 (focus (simp only [go_sem, *]; (try rfl); done))); (focus rfl); simp only [putA])
              | (apply x_unwanted; (focus (simp only [go_sem, *]; (try rfl); done)); (focus rfl); simp only [putA])
              | (apply x_condT; (focus (simp only [go_sem, *]; (try rfl); done)))
              | (apply x_condF; (focus (simp only [go_sem, *]; (try rfl); done)))
              | (apply x_guardS; (focus rfl); (fail_if_success (focus (show _ = some true; (focus (simp only [go_sem, *]; (try rfl); done))))); (focus (simp only [go_sem, *]; (try rfl); done)); all_goals (intro hb; try simp only [Bool.not_eq_true', Bool.not_eq_false'] at hb))
              | (apply x_condS; (focus (simp only [go_sem, *]; (try rfl); done)); all_goals (intro hb; try simp only [Bool.not_eq_true', Bool.not_eq_false'] at hb))
            (apply f_ret; iterate 7 (focus (simp only [go_sem, *, Tryd.results91]; (try rfl); done)))
            exact h
    · simp only at ha
      rw [ha] at h
      clear ha
      repeat' first
        | apply x_seq | apply x_skip | apply x_block | apply x_exit | apply x_ret | apply x_ops_nil | apply p_blk | apply p_exit_it | apply p_exit_hit | apply p_ret_it | apply p_ret_blk | apply p_panic_it | apply p_panic_blk | apply p_end
        | (apply p_exit_miss; (focus rfl))
        | (apply x_region; simp only [List.toList_toArray])
        | (apply x_step0; (focus rfl); (focus (simp only [go_sem, *]; (try rfl); done)); (focus rfl); simp only [putA])
        | (apply x_panic; (focus (simp only [go_sem, *]; (try rfl); done)); (focus rfl); (focus (simp only [go_sem, *]; (try rfl); done)))
        | (apply x_step; (iterate 2 (focus (simp only [go_sem, *]; (try rfl); done))); (focus rfl); simp only [putA])
        | (apply x_unwanted; (focus (simp only [go_sem, *]; (try rfl); done)); (focus rfl); simp only [putA])
        | (apply x_condT; (focus (simp only [go_sem, *]; (try rfl); done)))
        | (apply x_condF; (focus (simp only [go_sem, *]; (try rfl); done)))
        | (apply x_guardS; (focus rfl); (fail_if_success (focus (show _ = some true; (focus (simp only [go_sem, *]; (try rfl); done))))); (focus (simp only [go_sem, *]; (try rfl); done)); all_goals (intro hb; try simp only [Bool.not_eq_true', Bool.not_eq_false'] at hb))
        | (apply x_condS; (focus (simp only [go_sem, *]; (try rfl); done)); all_goals (intro hb; try simp only [Bool.not_eq_true', Bool.not_eq_false'] at hb))
      (apply f_ret; iterate 7 (focus (simp only [go_sem, *, Tryd.results91]; (try rfl); done)))
      exact h
end Go.Proofs.YtnndmokndgnidaaDoor
namespace Go.Proofs.YtnndmokndgnidaaDoor
open Go Go.Fen
set_option linter.unusedSimpArgs false
set_option linter.unusedVariables false
attribute [local irreducible] RunX WP ACall AnyP OpA ProtL
set_option maxRecDepth 8000
def Syn (w0 : World) : Prop := ∃ ev, w0.cell? ⟨4, 0, none⟩ = some ev ∧ (ev = .nilIface ∨ ∃ te pe, ev = .iface te pe)
theorem toErr (w0 : World) (hS : Syn w0) (S : List Blk) (s : List UInt8) (hs : s.length ≤ 1000) (R : AOut → List Blk → Prop) (h : ∀ v : Value, R (.ret (.ifc 147 (.val v))) S) :
    ACall Tryd.prog w0 90 [.str [80, 97, 114, 115, 101, 85, 105, 110, 116], .str s, .int .i64 16, .int .i64 8, synV] S R := by
  refine ACall.libR (vs := [.string ⟨#[80, 97, 114, 115, 101, 85, 105, 110, 116]⟩, .string ⟨s.toArray⟩, .int .i64 16, .int .i64 8, .iface 144 (.int .i64 2)]) (Go.Proofs.enters_of Tryd.func90 (by kernel_rfl) rfl) rfl ?_
  intro w hb
  obtain ⟨ev, hv, hev⟩ := hS
  refine (Go.Proofs.Any.strconv_toError_syntax Go.Proofs.Tryd.laysC245 ⟨#[80, 97, 114, 115, 101, 85, 105, 110, 116]⟩ ⟨s.toArray⟩ 16 8 ev w ?_ ?_ hev).mono ?_
  · show s.toArray.size ≤ _
    simp; omega
  · exact (hb.cell (World.block_lt_of_cell? _ _ hv)).trans hv
  · rintro e w' ⟨N, rfl, hN, hc, hbw⟩
    exact ⟨_, rfl, hbw, .ifc 147 (.val (.pointer (some ⟨N, 0, none⟩))), fun ι ψ => .ifc _ _ _ (.val _ rfl), h _⟩
set_option maxHeartbeats 4000000 in
theorem parseUint (w0 : World) (hS : Syn w0) : PU16 w0 := by
  intro S b1 b2 R h1 h2
  have hte := fun S' => toErr w0 hS S' [b1, b2] (by simp)
  cases hh : hexV b1 b2 with
  | some v =>
    have hpu := fun S' (R : AOut → List Blk → Prop) (h : R (.ret (.tup [.int .u64 v, .inil])) S') => puIn w0 S' b1 b2 R (by rw [hh]; exact h)
    have h := h1 v hh
    clear hte h1 h2 hh
    refine enter Tryd.func77 rfl (by decide +kernel) (by rw [Tryd.ntmps77]; simp) (by rw [Tryd.ntmps77]; decide) (fun hO => ?_); rw [Tryd.ntmps77]
    repeat' first
      | apply x_seq | apply x_skip | apply x_block | apply x_exit | apply x_ret | apply x_ops_nil | apply p_blk | apply p_exit_it | apply p_exit_hit | apply p_ret_it | apply p_ret_blk | apply p_panic_it | apply p_panic_blk | apply p_end
      | (apply p_exit_miss; (focus rfl))
      | (apply x_region; simp only [List.toList_toArray])
      | (apply x_step0; (focus rfl); (focus (simp only [go_sem, *]; (try rfl); done)); (focus rfl); simp only [putA])
      | (apply x_callA []; (focus (simp only [go_sem, *]; (try rfl); done)); (focus rfl); (focus (simp only [go_sem, *]; (try rfl); done)); (focus rfl); (iterate 2 (focus (simp only [go_sem, *]; (try rfl); done))); (first | (apply hpu)); simp only [afterCall, putA])
      | (apply x_panic; (focus (simp only [go_sem, *]; (try rfl); done)); (focus rfl); (focus (simp only [go_sem, *]; (try rfl); done)))
      | (apply x_step; (iterate 2 (focus (simp only [go_sem, *]; (try rfl); done))); (focus rfl); simp only [putA])
      | (apply x_unwanted; (focus (simp only [go_sem, *]; (try rfl); done)); (focus rfl); simp only [putA])
      | (apply x_condT; (focus (simp only [go_sem, *]; (try rfl); done)))
      | (apply x_condF; (focus (simp only [go_sem, *]; (try rfl); done)))
      | (apply x_guardS; (focus rfl); (fail_if_success (focus (show _ = some true; (focus (simp only [go_sem, *]; (try rfl); done))))); (focus (simp only [go_sem, *]; (try rfl); done)); all_goals (intro hb; try simp only [Bool.not_eq_true', Bool.not_eq_false'] at hb))
      | (apply x_condS; (focus (simp only [go_sem, *]; (try rfl); done)); all_goals (intro hb; try simp only [Bool.not_eq_true', Bool.not_eq_false'] at hb))
    (apply f_ret; iterate 7 (focus (simp only [go_sem, *, Tryd.results77]; (try rfl); done)))
    exact h
  | none =>
    have hpu := fun S' (R : AOut → List Blk → Prop) (h : R (.ret (.tup [.int .u64 0, synV])) S') => puIn w0 S' b1 b2 R (by rw [hh]; exact h)
    have h := h2 hh
    clear h1 h2 hh
    unfold synV at hpu hte
    refine enter Tryd.func77 rfl (by decide +kernel) (by rw [Tryd.ntmps77]; simp) (by rw [Tryd.ntmps77]; decide) (fun hO => ?_); rw [Tryd.ntmps77]
    repeat' first
      | apply x_seq | apply x_skip | apply x_block | apply x_exit | apply x_ret | apply x_ops_nil | apply p_blk | apply p_exit_it | apply p_exit_hit | apply p_ret_it | apply p_ret_blk | apply p_panic_it | apply p_panic_blk | apply p_end
      | (apply p_exit_miss; (focus rfl))
      | (apply x_region; simp only [List.toList_toArray])
      | (apply x_step0; (focus rfl); (focus (simp only [go_sem, *]; (try rfl); done)); (focus rfl); simp only [putA])
      | (apply x_callA []; (focus (simp only [go_sem, *]; (try rfl); done)); (focus rfl); (focus (simp only [go_sem, *]; (try rfl); done)); (focus rfl); (iterate 2 (focus (simp only [go_sem, *]; (try rfl); done))); (first | (apply hpu) | (apply hte)); simp only [afterCall, putA])
      | (apply x_panic; (focus (simp only [go_sem, *]; (try rfl); done)); (focus rfl); (focus (simp only [go_sem, *]; (try rfl); done)))
      | (apply x_step; (iterate 2 (focus (simp only [go_sem, *]; (try rfl); done))); (focus rfl); simp only [putA])
      | (apply x_unwanted; (focus (simp only [go_sem, *]; (try rfl); done)); (focus rfl); simp only [putA])
      | (apply x_condT; (focus (simp only [go_sem, *]; (try rfl); done)))
      | (apply x_condF; (focus (simp only [go_sem, *]; (try rfl); done)))
      | (apply x_guardS; (focus rfl); (fail_if_success (focus (show _ = some true; (focus (simp only [go_sem, *]; (try rfl); done))))); (focus (simp only [go_sem, *]; (try rfl); done)); all_goals (intro hb; try simp only [Bool.not_eq_true', Bool.not_eq_false'] at hb))
      | (apply x_condS; (focus (simp only [go_sem, *]; (try rfl); done)); all_goals (intro hb; try simp only [Bool.not_eq_true', Bool.not_eq_false'] at hb))
    intro v
    repeat' first
      | apply x_seq | apply x_skip | apply x_block | apply x_exit | apply x_ret | apply x_ops_nil | apply p_blk | apply p_exit_it | apply p_exit_hit | apply p_ret_it | apply p_ret_blk | apply p_panic_it | apply p_panic_blk | apply p_end
      | (apply p_exit_miss; (focus rfl))
      | (apply x_region; simp only [List.toList_toArray])
      | (apply x_step0; (focus rfl); (focus (simp only [go_sem, *]; (try rfl); done)); (focus rfl); simp only [putA])
      | (apply x_panic; (focus (simp only [go_sem, *]; (try rfl); done)); (focus rfl); (focus (simp only [go_sem, *]; (try rfl); done)))
      | (apply x_step; (iterate 2 (focus (simp only [go_sem, *]; (try rfl); done))); (focus rfl); simp only [putA])
      | (apply x_unwanted; (focus (simp only [go_sem, *]; (try rfl); done)); (focus rfl); simp only [putA])
      | (apply x_condT; (focus (simp only [go_sem, *]; (try rfl); done)))
      | (apply x_condF; (focus (simp only [go_sem, *]; (try rfl); done)))
      | (apply x_guardS; (focus rfl); (fail_if_success (focus (show _ = some true; (focus (simp only [go_sem, *]; (try rfl); done))))); (focus (simp only [go_sem, *]; (try rfl); done)); all_goals (intro hb; try simp only [Bool.not_eq_true', Bool.not_eq_false'] at hb))
      | (apply x_condS; (focus (simp only [go_sem, *]; (try rfl); done)); all_goals (intro hb; try simp only [Bool.not_eq_true', Bool.not_eq_false'] at hb))
    (apply f_ret; iterate 7 (focus (simp only [go_sem, *, Tryd.results77]; (try rfl); done)))
    exact h _ _
end Go.Proofs.YtnndmokndgnidaaDoor
namespace Go.Proofs.YtnndmokndgnidaaDoor
open Go Go.Fen
set_option linter.unusedSimpArgs false
set_option linter.unusedVariables false
attribute [local irreducible] RunX WP ACall AnyP OpA ProtL
set_option maxRecDepth 8000
theorem chap_fastE : fasterS chapR 1 3 = (⟨10, 3, [⟨33, 1, 0, 0, [97, 10]⟩, ⟨17, 3, 20, 4, []⟩, ⟨0, 4, 0, 0, [109]⟩]⟩, 0) := by decide +kernel
theorem chap_idleE : idleS chapR 60 = (⟨10, 3, [⟨60, 1, 0, 0, [97, 10]⟩, ⟨50, 3, 20, 4, []⟩, ⟨0, 4, 0, 0, [109]⟩]⟩, 0) := by decide +kernel
set_option maxHeartbeats 1000000 in
theorem waitsE (w0 : World) (S : List Blk) (r : Rec) (hm : (r.items.length : Int) < 9223372036854775807) (R : AOut → List Blk → Prop) (h : R (.ret (.bool (r.items.map It.wait == []))) S) :
    ACall Tryd.prog w0 29 [r.av, .sval false []] S R := by
  unfold Rec.av
  cases hi : r.items with
  | nil =>
    rw [hi] at h
    clear hm
    refine enter Tryd.func29 rfl (by decide +kernel) (by rw [Tryd.ntmps29]; simp) (by rw [Tryd.ntmps29]; decide) (fun hO => ?_); rw [Tryd.ntmps29]
    repeat' first
      | apply x_seq | apply x_skip | apply x_block | apply x_exit | apply x_ret | apply x_ops_nil | apply p_blk | apply p_exit_it | apply p_exit_hit | apply p_ret_it | apply p_ret_blk | apply p_panic_it | apply p_panic_blk | apply p_end
      | (apply p_exit_miss; (focus rfl))
      | (apply x_region; simp only [List.toList_toArray])
      | (apply x_step0; (focus rfl); (focus (simp only [go_sem, *]; (try rfl); done)); (focus rfl); simp only [putA])
      | (apply x_panic; (focus (simp only [go_sem, *]; (try rfl); done)); (focus rfl); (focus (simp only [go_sem, *]; (try rfl); done)))
      | (apply x_step; (iterate 2 (focus (simp only [go_sem, *]; (try rfl); done))); (focus rfl); simp only [putA])
      | (apply x_unwanted; (focus (simp only [go_sem, *]; (try rfl); done)); (focus rfl); simp only [putA])
      | (apply x_condT; (focus (simp only [go_sem, *]; (try rfl); done)))
      | (apply x_condF; (focus (simp only [go_sem, *]; (try rfl); done)))
      | (apply x_guardS; (focus rfl); (fail_if_success (focus (show _ = some true; (focus (simp only [go_sem, *]; (try rfl); done))))); (focus (simp only [go_sem, *]; (try rfl); done)); all_goals (intro hb; try simp only [Bool.not_eq_true', Bool.not_eq_false'] at hb))
      | (apply x_condS; (focus (simp only [go_sem, *]; (try rfl); done)); all_goals (intro hb; try simp only [Bool.not_eq_true', Bool.not_eq_false'] at hb))
    refine x_ind (fun (_ : Unit) env S' => env 1000000 = .dfr [] ∧ env 1 = .sval false [] ∧ env 5 = .int .i64 0 ∧ S' = S ++ [Blk.cells [AV.int .i64 r.cols, AV.int .i64 r.rows, AV.sval false (List.map It.av [])]]) (fun _ => 0) () ?_ ?_
    · exact ⟨by (simp only [go_sem, *]; try rfl), by (simp only [go_sem, *]; try rfl), by (simp only [go_sem, *]; try rfl), rfl⟩
    · rintro u env S' ⟨e0, e1, e5, rfl⟩ IH
      clear IH
      repeat' first
        | apply x_seq | apply x_skip | apply x_block | apply x_exit | apply x_ret | apply x_ops_nil | apply p_blk | apply p_exit_it | apply p_exit_hit | apply p_ret_it | apply p_ret_blk | apply p_panic_it | apply p_panic_blk | apply p_end
        | (apply p_exit_miss; (focus rfl))
        | (apply x_region; simp only [List.toList_toArray])
        | (apply x_step0; (focus rfl); (focus (simp only [go_sem, *]; (try rfl); done)); (focus rfl); simp only [putA])
        | (apply x_panic; (focus (simp only [go_sem, *]; (try rfl); done)); (focus rfl); (focus (simp only [go_sem, *]; (try rfl); done)))
        | (apply x_step; (iterate 2 (focus (simp only [go_sem, *]; (try rfl); done))); (focus rfl); simp only [putA])
        | (apply x_unwanted; (focus (simp only [go_sem, *]; (try rfl); done)); (focus rfl); simp only [putA])
        | (apply x_condT; (focus (simp only [go_sem, *]; (try rfl); done)))
        | (apply x_condF; (focus (simp only [go_sem, *]; (try rfl); done)))
        | (apply x_guardS; (focus rfl); (fail_if_success (focus (show _ = some true; (focus (simp only [go_sem, *]; (try rfl); done))))); (focus (simp only [go_sem, *]; (try rfl); done)); all_goals (intro hb; try simp only [Bool.not_eq_true', Bool.not_eq_false'] at hb))
        | (apply x_condS; (focus (simp only [go_sem, *]; (try rfl); done)); all_goals (intro hb; try simp only [Bool.not_eq_true', Bool.not_eq_false'] at hb))
      (apply f_ret; iterate 7 (focus (simp only [go_sem, *, Tryd.results29]; (try rfl); done)))
      exact h
  | cons x l =>
    rw [hi] at h hm
    have d1 : (((x :: l).length : Int) == 0) = false := by simp; omega
    have d2 : (((x :: l).length : Int) != 0) = true := by simp; omega
    refine enter Tryd.func29 rfl (by decide +kernel) (by rw [Tryd.ntmps29]; simp) (by rw [Tryd.ntmps29]; decide) (fun hO => ?_); rw [Tryd.ntmps29]
    repeat' first
      | apply x_seq | apply x_skip | apply x_block | apply x_exit | apply x_ret | apply x_ops_nil | apply p_blk | apply p_exit_it | apply p_exit_hit | apply p_ret_it | apply p_ret_blk | apply p_panic_it | apply p_panic_blk | apply p_end
      | (apply p_exit_miss; (focus rfl))
      | (apply x_region; simp only [List.toList_toArray])
      | (apply x_step0; (focus rfl); (focus (simp only [go_sem, *]; (try rfl); done)); (focus rfl); simp only [putA])
      | (apply x_panic; (focus (simp only [go_sem, *]; (try rfl); done)); (focus rfl); (focus (simp only [go_sem, *]; (try rfl); done)))
      | (apply x_step; (iterate 2 (focus (simp only [go_sem, *]; (try rfl); done))); (focus rfl); simp only [putA])
      | (apply x_unwanted; (focus (simp only [go_sem, *]; (try rfl); done)); (focus rfl); simp only [putA])
      | (apply x_condT; (focus (simp only [go_sem, *]; (try rfl); done)))
      | (apply x_condF; (focus (simp only [go_sem, *]; (try rfl); done)))
      | (apply x_guardS; (focus rfl); (fail_if_success (focus (show _ = some true; (focus (simp only [go_sem, *]; (try rfl); done))))); (focus (simp only [go_sem, *]; (try rfl); done)); all_goals (intro hb; try simp only [Bool.not_eq_true', Bool.not_eq_false'] at hb))
      | (apply x_condS; (focus (simp only [go_sem, *]; (try rfl); done)); all_goals (intro hb; try simp only [Bool.not_eq_true', Bool.not_eq_false'] at hb))
    (apply f_ret; iterate 7 (focus (simp only [go_sem, *, Tryd.results29]; (try rfl); done)))
    exact h
set_option maxHeartbeats 16000000 in
theorem works (w0 : World) (hT : Tab w0) (hPU : PU16 w0) (S : List Blk) (R : AOut → List Blk → Prop) (h : R (.ret (.bool true)) S) : ACall Tryd.prog w0 14 [] S R := by
  have hm : (chapR.items.length : Int) < 9223372036854775807 := by decide +kernel
  obtain ⟨ci, hci⟩ : ∃ ci : List It, chapR = ⟨10, 3, ci⟩ := ⟨_, rfl⟩
  obtain ⟨i1, hi1⟩ : ∃ l : List It, l = [⟨30, 3, 20, 4, []⟩, ⟨0, 4, 0, 0, [109]⟩] := ⟨_, rfl⟩
  obtain ⟨i3, hi3⟩ : ∃ l : List It, l = [⟨100, 1, 0, 0, [97, 10]⟩] := ⟨_, rfl⟩
  obtain ⟨i4, hi4⟩ : ∃ l : List It, l = [⟨33, 1, 0, 0, [97, 10]⟩, ⟨17, 3, 20, 4, []⟩, ⟨0, 4, 0, 0, [109]⟩] := ⟨_, rfl⟩
  obtain ⟨i5, hi5⟩ : ∃ l : List It, l = [⟨60, 1, 0, 0, [97, 10]⟩, ⟨50, 3, 20, 4, []⟩, ⟨0, 4, 0, 0, [109]⟩] := ⟨_, rfl⟩
  have t1 : ∀ S' (R : AOut → List Blk → Prop), R (.ret (.tup [(Rec.mk 10 3 ci).av, .str chapS])) S' → ACall Tryd.prog w0 28 [] S' R := fun S' R h => chapter w0 S' R (by rw [hci]; exact h)
  have t2 : ∀ S' (R : AOut → List Blk → Prop), R (.ret (.tup [.str chapS, .int .i64 0])) S' → ACall Tryd.prog w0 20 [(Rec.mk 10 3 ci).av] S' R := fun S' R h => by rw [← hci]; exact print w0 hT S' chapR hm R (by rw [chap_check, chap_print]; exact h)
  have t3 : ∀ S' (R : AOut → List Blk → Prop), R (.ret (.tup [(Rec.mk 10 3 ci).av, .int .i64 0])) S' → ACall Tryd.prog w0 21 [.str chapS] S' R := fun S' R h => parse w0 hPU S' chapS (by
    intro r hr
    have := chap_parse
    unfold parseS at this
    rw [if_neg (by decide), hr] at this
    by_cases hc : checkB r = true
    · simp only [hc, if_true, Prod.mk.injEq] at this
      rw [this.1]; exact hm
    · exfalso
      simp only [hc] at this
      cases this) R (by rw [chap_parse, hci]; exact h)
  have t4 : ∀ S' (R : AOut → List Blk → Prop), R (.ret (.tup [.int .i64 150, .int .i64 0])) S' → ACall Tryd.prog w0 16 [(Rec.mk 10 3 ci).av] S' R := fun S' R h => by rw [← hci]; exact long w0 S' chapR hm R (by rw [chap_check, chap_long]; exact h)
  have t5 : ∀ S' (R : AOut → List Blk → Prop), R (.ret (.tup [(Rec.mk 10 3 i1).av, .int .i64 0])) S' → ACall Tryd.prog w0 17 [(Rec.mk 10 3 ci).av, .int .i64 120, .int .i64 200] S' R := fun S' R h => by rw [← hci]; exact cut w0 S' chapR hm 120 200 R (by rw [chap_cut1, ← hi1]; exact h)
  have t6 : ∀ S' (R : AOut → List Blk → Prop), R (.ret (.tup [.agg [.int .i64 20, .int .i64 4, .sval false []], .int .i64 0])) S' → ACall Tryd.prog w0 17 [(Rec.mk 10 3 ci).av, .int .i64 200, .int .i64 300] S' R := fun S' R h => by rw [← hci]; exact cut w0 S' chapR hm 200 300 R (by rw [chap_cut2]; exact h)
  have t7 : ∀ S' (R : AOut → List Blk → Prop), R (.ret (.tup [(Rec.mk 10 3 i3).av, .int .i64 0])) S' → ACall Tryd.prog w0 17 [(Rec.mk 10 3 ci).av, .int .i64 0, .int .i64 150] S' R := fun S' R h => by rw [← hci]; exact cut w0 S' chapR hm 0 150 R (by rw [chap_cut3, ← hi3]; exact h)
  have t8 : ∀ S' (R : AOut → List Blk → Prop), R (.ret (.tup [(Rec.mk 10 3 i4).av, .int .i64 0])) S' → ACall Tryd.prog w0 9 [(Rec.mk 10 3 ci).av, .int .i64 1, .int .i64 3] S' R := fun S' R h => by rw [← hci]; exact faster w0 S' chapR hm 1 3 R (by rw [chap_fastE, ← hi4]; exact h)
  have t9 : ∀ S' (R : AOut → List Blk → Prop), R (.ret (.tup [(Rec.mk 10 3 i5).av, .int .i64 0])) S' → ACall Tryd.prog w0 11 [(Rec.mk 10 3 ci).av, .int .i64 60] S' R := fun S' R h => by rw [← hci]; exact idle w0 S' chapR hm 60 R (by rw [chap_idleE, ← hi5]; exact h)
  have u1 : ∀ S' b g fz, S'[b]? = some (Blk.arr 3 1 fz g [.int .i64 30, .int .i64 0]) → ∀ R : AOut → List Blk → Prop, R (.ret (.bool true)) S' → ACall Tryd.prog w0 29 [(Rec.mk 10 3 i1).av, .sown b g 2] S' R := fun S' b g fz hb R h => waits w0 S' ⟨10, 3, i1⟩ [30, 0] b g fz (by rw [hi1]; decide) hb R (by rw [hi1]; exact h)
  have u2 : ∀ S' (R : AOut → List Blk → Prop), R (.ret (.bool true)) S' → ACall Tryd.prog w0 29 [.agg [.int .i64 20, .int .i64 4, .sval false []], .sval false []] S' R := fun S' R h => waitsE w0 S' ⟨20, 4, []⟩ (by decide) R h
  have u3 : ∀ S' b g fz, S'[b]? = some (Blk.arr 3 1 fz g [.int .i64 100]) → ∀ R : AOut → List Blk → Prop, R (.ret (.bool true)) S' → ACall Tryd.prog w0 29 [(Rec.mk 10 3 i3).av, .sown b g 1] S' R := fun S' b g fz hb R h => waits w0 S' ⟨10, 3, i3⟩ [100] b g fz (by rw [hi3]; decide) hb R (by rw [hi3]; exact h)
  have u4 : ∀ S' b g fz, S'[b]? = some (Blk.arr 3 1 fz g [.int .i64 33, .int .i64 17, .int .i64 0]) → ∀ R : AOut → List Blk → Prop, R (.ret (.bool true)) S' → ACall Tryd.prog w0 29 [(Rec.mk 10 3 i4).av, .sown b g 3] S' R := fun S' b g fz hb R h => waits w0 S' ⟨10, 3, i4⟩ [33, 17, 0] b g fz (by rw [hi4]; decide) hb R (by rw [hi4]; exact h)
  have u5 : ∀ S' b g fz, S'[b]? = some (Blk.arr 3 1 fz g [.int .i64 60, .int .i64 50, .int .i64 0]) → ∀ R : AOut → List Blk → Prop, R (.ret (.bool true)) S' → ACall Tryd.prog w0 29 [(Rec.mk 10 3 i5).av, .sown b g 3] S' R := fun S' b g fz hb R h => waits w0 S' ⟨10, 3, i5⟩ [60, 50, 0] b g fz (by rw [hi5]; decide) hb R (by rw [hi5]; exact h)
  have v1 : ∀ S' (R : AOut → List Blk → Prop), R (.ret (.bool true)) S' → ACall Tryd.prog w0 15 [(Rec.mk 10 3 ci).av, (Rec.mk 10 3 ci).av] S' R := fun S' R h => refSame w0 S' ⟨10, 3, ci⟩ ⟨10, 3, ci⟩ (by rw [hci] at hm; exact hm) R (by rw [show sameB (Rec.mk 10 3 ci) ⟨10, 3, ci⟩ = true by simp [sameB]]; exact h)
  have v2 : ∀ S' (R : AOut → List Blk → Prop), R (.ret (.bool true)) S' → ACall Tryd.prog w0 30 [(Rec.mk 10 3 ci).av, .int .i64 100, .int .i64 1] S' R := fun S' R h => by rw [← hci]; exact uptoLaw w0 S' chapR hm 100 1 1 chap_check chap_up1 R h
  have v3 : ∀ S' (R : AOut → List Blk → Prop), R (.ret (.bool true)) S' → ACall Tryd.prog w0 30 [(Rec.mk 10 3 ci).av, .int .i64 149, .int .i64 1] S' R := fun S' R h => by rw [← hci]; exact uptoLaw w0 S' chapR hm 149 1 1 chap_check chap_up2 R h
  have v4 : ∀ S' (R : AOut → List Blk → Prop), R (.ret (.bool true)) S' → ACall Tryd.prog w0 30 [(Rec.mk 10 3 ci).av, .int .i64 150, .int .i64 3] S' R := fun S' R h => by rw [← hci]; exact uptoLaw w0 S' chapR hm 150 3 3 chap_check chap_up3 R h
  have v5 : ∀ S' (R : AOut → List Blk → Prop), R (.ret (.bool true)) S' → ACall Tryd.prog w0 30 [(Rec.mk 10 3 ci).av, .int .i64 (-1), .int .i64 0] S' R := fun S' R h => by rw [← hci]; exact uptoLaw w0 S' chapR hm (-1) 0 0 chap_check chap_up4 R h
  obtain ⟨cs, hcs⟩ : ∃ cs, cs = chapS := ⟨_, rfl⟩
  rw [← hcs] at t1 t2 t3
  unfold Rec.av at t1 t2 t3 t4 t5 t6 t7 t8 t9 u1 u3 u4 u5 v1 v2 v3 v4 v5
  clear hm hci hi1 hi3 hi4 hi5 hT hPU hcs
  replace t1 := Lib.hid t1
  replace t2 := Lib.hid t2
  replace t3 := Lib.hid t3
  replace t4 := Lib.hid t4
  replace t5 := Lib.hid t5
  replace t6 := Lib.hid t6
  replace t7 := Lib.hid t7
  replace t8 := Lib.hid t8
  replace t9 := Lib.hid t9
  replace u1 := Lib.hid u1
  replace u2 := Lib.hid u2
  replace u3 := Lib.hid u3
  replace u4 := Lib.hid u4
  replace u5 := Lib.hid u5
  replace v1 := Lib.hid v1
  replace v2 := Lib.hid v2
  replace v3 := Lib.hid v3
  replace v4 := Lib.hid v4
  replace v5 := Lib.hid v5
  refine enter Tryd.func14 rfl (by decide +kernel) (by rw [Tryd.ntmps14]; simp) (by rw [Tryd.ntmps14]; decide) (fun hO => ?_); rw [Tryd.ntmps14]
  repeat' first
    | apply x_seq | apply x_skip | apply x_block | apply x_exit | apply x_ret | apply x_ops_nil | apply p_blk | apply p_exit_it | apply p_exit_hit | apply p_ret_it | apply p_ret_blk | apply p_panic_it | apply p_panic_blk | apply p_end
    | (apply p_exit_miss; (focus rfl))
    | (apply x_region; simp only [List.toList_toArray])
    | (apply x_step0; (focus rfl); (focus (simp only [go_sem, *]; (try rfl); done)); (focus rfl); simp only [putA])
    | (apply x_callA []; (focus (simp only [go_sem, *]; (try rfl); done)); (focus rfl); (focus (simp only [go_sem, *]; (try rfl); done)); (focus rfl); (iterate 2 (focus (simp only [go_sem, *]; (try rfl); done))); (first | (apply t1.out) | (apply t2.out) | (apply t3.out) | (apply t4.out) | (apply t5.out) | (apply t6.out) | (apply t7.out) | (apply t8.out) | (apply t9.out) | (apply u1.out; (focus (simp only [go_sem, *]; (try rfl); done))) | (apply u2.out) | (apply u3.out; (focus (simp only [go_sem, *]; (try rfl); done))) | (apply u4.out; (focus (simp only [go_sem, *]; (try rfl); done))) | (apply u5.out; (focus (simp only [go_sem, *]; (try rfl); done))) | (apply v1.out) | (apply v2.out) | (apply v3.out) | (apply v4.out) | (apply v5.out)); simp only [afterCall, putA])
    | (apply x_panic; (focus (simp only [go_sem, *]; (try rfl); done)); (focus rfl); (focus (simp only [go_sem, *]; (try rfl); done)))
    | (apply x_step; (iterate 2 (focus (simp only [go_sem, *]; (try rfl); done))); (focus rfl); simp only [putA])
    | (apply x_unwanted; (focus (simp only [go_sem, *]; (try rfl); done)); (focus rfl); simp only [putA])
    | (apply x_condT; (focus (simp only [go_sem, *]; (try rfl); done)))
    | (apply x_condF; (focus (simp only [go_sem, *]; (try rfl); done)))
    | (apply x_guardS; (focus rfl); (fail_if_success (focus (show _ = some true; (focus (simp only [go_sem, *]; (try rfl); done))))); (focus (simp only [go_sem, *]; (try rfl); done)); all_goals (intro hb; try simp only [Bool.not_eq_true', Bool.not_eq_false'] at hb))
    | (apply x_condS; (focus (simp only [go_sem, *]; (try rfl); done)); all_goals (intro hb; try simp only [Bool.not_eq_true', Bool.not_eq_false'] at hb))
  all_goals (apply f_ret; iterate 7 (focus (simp only [go_sem, *, Tryd.results14]; (try rfl); done)))
  all_goals exact h
end Go.Proofs.YtnndmokndgnidaaDoor
namespace Go.Proofs.YtnndmokndgnidaaDoor
open Go Go.Fen
set_option linter.unusedSimpArgs false
set_option linter.unusedVariables false
attribute [local irreducible] RunX WP ACall AnyP OpA ProtL
set_option maxRecDepth 8000
open Go.ChangeShapes Go.WideShapes Go.ChangeAt Go.RowKit
theorem own : ownKnob Tryd.prog.godebug = none := by kernel_rfl
theorem laid_mem {P : Program} {W : World} {nm : String} {d : DataW Unit} : ∀ {l : List (String × DataW Unit)} {ps : List MemPlace}, DataW.LaidVars P W l ps → (nm, d) ∈ l →
    ∃ g t cs fuel p, P.globalNamed nm = some g ∧ (P.globals[g]?).map (·.type) = some t ∧ W.var? P nm = some cs ∧ DataW.trod (fun _ => ()) P W 0 (fun _ => true) false fuel t cs.toList = some (d, p) := by
  intro l
  induction l with
  | nil => intro ps _ h; cases h
  | cons x l ih =>
    intro ps h hm
    obtain ⟨nm', d'⟩ := x
    obtain ⟨g, t, cs, fuel, p, q, h1, h2, h3, h4, h5, _⟩ := h
    rcases List.mem_cons.1 hm with e | hm
    · cases e; exact ⟨g, t, cs, fuel, p, h1, h2, h3, h4⟩
    · exact ih h5 hm
def seatLaid : List (String × DataW Unit) := [("math/bits.deBruijn32tab", Rows.laid_math_bits_deBruijn32tab), ("math/bits.deBruijn64tab", Rows.laid_math_bits_deBruijn64tab), ("internal/strconv.uint64pow10", Rows.laid_internal_strconv_uint64pow10), ("unicode/utf8.acceptRanges", Rows.laid_unicode_utf8_acceptRanges), ("strconv.ErrRange", Rows.laid_strconv_ErrRange), ("strconv.ErrSyntax", Rows.laid_strconv_ErrSyntax), ("unicode/utf8.first", Rows.laid_unicode_utf8_first)]
theorem gPow : Tryd.prog.globalNamed "internal/strconv.uint64pow10" = some 1 := by kernel_rfl
theorem gSyn : Tryd.prog.globalNamed "strconv.ErrSyntax" = some 4 := by kernel_rfl
theorem tab_of {W : World} (h : laidMetH Tryd.prog seatLaid W) : Tab W := by
  rw [MakeChecks.laidMetH_plain _ _ _ (by kernel_rfl)] at h
  obtain ⟨ps, hl, _⟩ := h
  obtain ⟨g, t, cs, fuel, p, h1, h2, h3, h4⟩ := laid_mem (nm := "internal/strconv.uint64pow10") (d := Rows.laid_internal_strconv_uint64pow10) hl (by simp [seatLaid])
  obtain rfl := Option.some.inj (gPow.symm.trans h1)
  obtain rfl := Option.some.inj ((show (Tryd.prog.globals[1]?).map (·.type) = some 127 by kernel_rfl).symm.trans h2)
  have h5 := Lib.cells_of_tab (k := .u64) (zs := Lib.pow10Tab) (un_127) (un_49) (by kernel_rfl) (by kernel_rfl) h4
  unfold Tab Lib.TabIs
  rw [h3, ← h5]
theorem syn_of {W : World} (h : laidMetH Tryd.prog seatLaid W) : Syn W := by
  rw [MakeChecks.laidMetH_plain _ _ _ (by kernel_rfl)] at h
  obtain ⟨ps, hl, _⟩ := h
  obtain ⟨g, t, cs, fuel, p, h1, h2, h3, h4⟩ := laid_mem (nm := "strconv.ErrSyntax") (d := Rows.laid_strconv_ErrSyntax) hl (by simp [seatLaid])
  obtain rfl := Option.some.inj (gSyn.symm.trans h1)
  obtain rfl := Option.some.inj ((show (Tryd.prog.globals[4]?).map (·.type) = some 84 by kernel_rfl).symm.trans h2)
  cases fuel with
  | zero => simp [DataW.trod] at h4
  | succ fuel =>
  simp only [DataW.trod, un_84] at h4
  have hc := World.var?_cell gSyn h3 0
  match hcs : cs.toList, h4 with
  | [.nilIface], _ => exact ⟨.nilIface, by rw [hc, ← Array.getElem?_toList, hcs]; rfl, .inl rfl⟩
  | [.iface u v], _ => exact ⟨.iface u v, by rw [hc, ← Array.getElem?_toList, hcs]; rfl, .inr ⟨u, v, rfl⟩⟩
def itSk : Sk := .cons (.int .i64) (.cons (.int .i64) (.cons (.int .i64) (.cons (.int .i64) (.cons .str .nil))))
def recSk : Sk := .cons (.int .i64) (.cons (.int .i64) (.cons (.sl itSk) .nil))
def ditSk : Sk := .cons (.int .u32) (.cons (.int .u8) (.cons (.int .u8) (.cons (.int .u8) (.cons .str .nil))))
def draftSk : Sk := .cons (.int .u8) (.cons (.int .u8) (.cons (.sl ditSk) .nil))
theorem els_map {α : Type} {s : Sk} {av : α → AV} (h : ∀ y, s.has y → ∃ x, s.mk y = av x) : ∀ els : List (List AV), (∀ y ∈ els, s.has y) → ∃ l : List α, els.map s.mk = l.map av ∧ l.length = els.length := by
  intro els
  induction els with
  | nil => intro _; exact ⟨[], rfl, rfl⟩
  | cons y els ih =>
    intro hh
    obtain ⟨x, hx⟩ := h y (hh y (List.mem_cons_self ..))
    obtain ⟨l, hl, hl2⟩ := ih fun z hz => hh z (List.mem_cons_of_mem _ hz)
    exact ⟨x :: l, by simp [hx, hl], by simp [hl2]⟩
theorem wf_nat {k : IntKind} {n : Int} (h : (Lit.int k n).wf = true) (hk : k.min = 0) : ((n.toNat : Nat) : Int) = n := by
  simp only [Lit.wf, Bool.and_eq_true, decide_eq_true_eq, hk] at h
  omega
theorem open_it (y : List AV) (h : itSk.has y) : ∃ x : It, itSk.mk y = x.av := by
  obtain ⟨_, _, rfl, ⟨a, rfl, _⟩, _, _, rfl, ⟨b, rfl, _⟩, _, _, rfl, ⟨c, rfl, _⟩, _, _, rfl, ⟨d, rfl, _⟩, _, _, rfl, ⟨s, rfl, _⟩, rfl⟩ := h
  exact ⟨⟨a, b, c, d, s⟩, rfl⟩
theorem open_rec (y : List AV) (h : recSk.has y) : ∃ x : Rec, recSk.mk y = x.av := by
  obtain ⟨_, _, rfl, ⟨a, rfl, _⟩, _, _, rfl, ⟨b, rfl, _⟩, _, _, rfl, ⟨els, rfl, _, he⟩, rfl⟩ := h
  obtain ⟨l, hl, _⟩ := els_map open_it els he
  exact ⟨⟨a, b, l⟩, by simp [Sk.mk, recSk, Sk.isAgg, Rec.av, hl]⟩
theorem open_dit (y : List AV) (h : ditSk.has y) : ∃ x : DIt, ditSk.mk y = x.av := by
  obtain ⟨_, _, rfl, ⟨a, rfl, ha⟩, _, _, rfl, ⟨b, rfl, hb⟩, _, _, rfl, ⟨c, rfl, hc⟩, _, _, rfl, ⟨d, rfl, hd⟩, _, _, rfl, ⟨s, rfl, _⟩, rfl⟩ := h
  exact ⟨⟨a.toNat, b.toNat, c.toNat, d.toNat, s⟩, by simp [Sk.mk, ditSk, Sk.isAgg, DIt.av, wf_nat ha rfl, wf_nat hb rfl, wf_nat hc rfl, wf_nat hd rfl]⟩
theorem open_draft (y : List AV) (h : draftSk.has y) : ∃ x : Dr, draftSk.mk y = x.av := by
  obtain ⟨_, _, rfl, ⟨a, rfl, ha⟩, _, _, rfl, ⟨b, rfl, hb⟩, _, _, rfl, ⟨els, rfl, _, he⟩, rfl⟩ := h
  obtain ⟨l, hl, _⟩ := els_map open_dit els he
  exact ⟨⟨a.toNat, b.toNat, l⟩, by simp [Sk.mk, draftSk, Sk.isAgg, Dr.av, hl, wf_nat ha rfl, wf_nat hb rfl]⟩
theorem laidOut : laidOutB Tryd.prog = true := by kernel_rfl
end Go.Proofs.YtnndmokndgnidaaDoor
namespace Go.Proofs.YtnndmokndgnidaaDoor
open Go Go.Fen
set_option linter.unusedSimpArgs false
set_option linter.unusedVariables false
attribute [local irreducible] RunX WP ACall AnyP OpA ProtL
set_option maxRecDepth 8000
theorem dit_check (y : DIt) : itemB y.item = true := by
  unfold DIt.item
  split
  · simp [itemB, sizeB]; omega
  · next h =>
    have h4 : y.kind % 4 = 0 ∨ y.kind % 4 = 1 ∨ y.kind % 4 = 3 := by omega
    have hl : (y.text.take 200).length ≤ 200 := by simp; omega
    have hw1 : (0 : Int) ≤ (y.wait : Int) % 1000001 := by omega
    have hw2 : (y.wait : Int) % 1000001 ≤ 1000000 := by omega
    have hk : 1 + (y.kind : Int) % 4 = 1 ∨ 1 + (y.kind : Int) % 4 = 2 ∨ 1 + (y.kind : Int) % 4 = 4 := by omega
    unfold itemB
    simp only [hw1, hw2, decide_true, Bool.true_and, beq_self_eq_true, Bool.and_true]
    rcases hk with hk | hk | hk <;> rw [hk]
    · simp only [beq_self_eq_true, Bool.true_or, if_true, decide_eq_true_eq]; omega
    · simp only [beq_self_eq_true, Bool.or_true, if_true, decide_eq_true_eq]; omega
    · rw [if_neg (by decide), if_pos (by decide)]
      simp only [decide_eq_true_eq]; omega
theorem rcd_check (d : Dr) : checkB d.rcd = true := by
  unfold checkB
  simp only [Bool.and_eq_true, decide_eq_true_eq, List.all_eq_true]
  refine ⟨⟨?_, ?_⟩, ?_⟩
  · simp [sizeB, Dr.rcd]; omega
  · simp [Dr.rcd]; omega
  · intro x hx
    obtain ⟨y, _, rfl⟩ := List.mem_map.1 (show x ∈ (d.items.take 30).map DIt.item from hx)
    exact dit_check y
theorem setW_get {l : List It} {f : Nat → Int} {k : Nat} {x : It} (h : l[k]? = some x) : (setW l f)[k]? = some { x with wait := f k } := by simp [setW, h]
theorem setW_self {l : List It} {f : Nat → Int} (h : ∀ k x, l[k]? = some x → f k = x.wait) : setW l f = l := by
  apply List.ext_getElem?
  intro k
  cases hx : l[k]? with
  | none => simp [setW, hx]
  | some x => rw [setW_get hx, h k x hx]
theorem fasterS_same {r : Rec} (hc : checkB r = true) {m : Int} (h1 : 1 ≤ m) (h2 : m ≤ 1000) : fasterS r m m = (r, 0) := by
  have hl : ∀ k, lastF r m m k = tmz r.items k := fun k => Int.mul_ediv_cancel _ (by omega)
  have hs : setW r.items (fun k => lastF r m m (k + 1) - lastF r m m k) = r.items := setW_self fun k x hx => by
    simp only [hl, tmz_succ hx]; omega
  unfold fasterS
  rw [if_pos hc, hs]
  have hw : (wB m 0 1000 && wB m 1 1000) = true := by simp [wB]; omega
  rw [if_pos hw]
  exact if_pos hc
theorem fast_step {r : Rec} (hc : checkB r = true) {a m : Int} (h0 : 0 ≤ a) (ha : a ≤ m) (h1 : 1 ≤ m) {k : Nat} {x : It} (hx : r.items[k]? = some x) :
    0 ≤ lastF r a m (k + 1) - lastF r a m k ∧ lastF r a m (k + 1) - lastF r a m k ≤ x.wait := by
  have hw := waits_of hc
  have hm := lastF_mono hw h0 h1 (List.getElem?_eq_some_iff.1 hx).1
  have hxw := hw.2 x (List.mem_of_getElem? hx)
  refine ⟨by omega, ?_⟩
  unfold lastF
  rw [tmz_succ hx]
  have e : (tmz r.items k + x.wait) * a ≤ tmz r.items k * a + x.wait * m := by
    rw [Int.add_mul]
    have := Int.mul_le_mul_of_nonneg_left ha hxw.1
    omega
  have h3 := Int.ediv_le_ediv (show 0 < m by omega) e
  rw [Int.add_mul_ediv_right _ _ (by omega)] at h3
  omega
theorem tmz_setW {l : List It} {f : Nat → Int} {g : Nat → Int} (h0 : g 0 = 0) (h : ∀ k, k < l.length → f k = g (k + 1) - g k) : ∀ k, k ≤ l.length → tmz (setW l f) k = g k := by
  intro k
  induction k with
  | zero => intro _; rw [h0]; rfl
  | succ k ih =>
    intro hk
    obtain ⟨x, hx⟩ : ∃ x, l[k]? = some x := ⟨_, List.getElem?_eq_getElem (by omega)⟩
    rw [tmz_succ (setW_get hx), ih (by omega)]
    have := h k (by omega)
    simp only
    omega
theorem fasterS_min {r : Rec} (hc : checkB r = true) {a m : Int} (h0 : 0 ≤ a) (ha : a ≤ m) (h1 : 1 ≤ m) (h2 : m ≤ 1000) : ∃ f : Nat → Int, fasterS r a m = (⟨r.cols, r.rows, setW r.items f⟩, 0) ∧ checkB ⟨r.cols, r.rows, setW r.items f⟩ = true ∧
    tmz (setW r.items f) (setW r.items f).length = tmz r.items r.items.length * a / m := by
  have hw := waits_of hc
  refine ⟨fun k => lastF r a m (k + 1) - lastF r a m k, ?_, ?_, ?_⟩
  · unfold fasterS
    have hB : (wB a 0 1000 && wB m 1 1000) = true := by simp [wB]; omega
    rw [if_pos hc, if_pos hB, if_pos]
    rw [checkOut hc (fun k hk => (fast_step hc h0 ha h1 (List.getElem?_eq_getElem hk)).1)]
    simp only [decide_eq_true_eq]
    intro k hk
    have := (fast_step hc h0 ha h1 (List.getElem?_eq_getElem hk)).2
    have := (hw.2 _ (List.getElem_mem hk)).2
    omega
  · have := checkOut hc (f := fun k => lastF r a m (k + 1) - lastF r a m k) (fun k hk => (fast_step hc h0 ha h1 (List.getElem?_eq_getElem hk)).1)
    refine this.trans ?_
    simp only [decide_eq_true_eq]
    intro k hk
    have := (fast_step hc h0 ha h1 (List.getElem?_eq_getElem hk)).2
    have := (hw.2 _ (List.getElem_mem hk)).2
    omega
  · rw [setW_len, tmz_setW (g := fun k => lastF r a m k) (lastF_zero r a m) (fun k hk => rfl) _ (Nat.le_refl _)]
    rfl
theorem waitAt_get {r : Rec} {M : Int} {k : Nat} {x : It} (hx : r.items[k]? = some x) : waitAt r M k = min x.wait M := by unfold waitAt; rw [hx]
theorem idleS_set {r : Rec} (hc : checkB r = true) {M : Int} (h0 : 0 ≤ M) (h1 : M ≤ 1000000) : idleS r M = (⟨r.cols, r.rows, setW r.items (waitAt r M)⟩, 0) ∧ checkB ⟨r.cols, r.rows, setW r.items (waitAt r M)⟩ = true ∧
    tmz (setW r.items (waitAt r M)) (setW r.items (waitAt r M)).length ≤ tmz r.items r.items.length := by
  have hw := waits_of hc
  refine ⟨?_, ?_, ?_⟩
  · unfold idleS
    have hB : wB M 0 1000000 = true := by simp [wB]; omega
    rw [if_pos hc, if_pos hB, setW_min]
  · have := checkOut hc (f := waitAt r M) (fun k hk => by
      rw [waitAt_get (List.getElem?_eq_getElem hk)]
      have := (hw.2 _ (List.getElem_mem hk)).1
      omega)
    refine this.trans ?_
    simp only [decide_eq_true_eq]
    intro k hk
    rw [waitAt_get (List.getElem?_eq_getElem hk)]
    omega
  · rw [setW_len]
    have key : ∀ k, k ≤ r.items.length → tmz (setW r.items (waitAt r M)) k ≤ tmz r.items k := by
      intro k
      induction k with
      | zero => intro _; exact Int.le_refl _
      | succ k ih =>
        intro hk
        obtain ⟨x, hx⟩ : ∃ x, r.items[k]? = some x := ⟨_, List.getElem?_eq_getElem (by omega)⟩
        rw [tmz_succ (setW_get hx), tmz_succ hx, waitAt_get hx]
        have := ih (by omega)
        simp only
        omega
    exact key _ (Nat.le_refl _)
theorem idleS_same {r : Rec} (hc : checkB r = true) : idleS r 1000000 = (r, 0) := by
  have hw := waits_of hc
  rw [(idleS_set hc (by decide) (by decide)).1, setW_self fun k x hx => ?_]
  rw [waitAt_get hx]
  have := (hw.2 x (List.mem_of_getElem? hx)).2
  omega
end Go.Proofs.YtnndmokndgnidaaDoor
namespace Go.Proofs.YtnndmokndgnidaaDoor
open Go Go.Fen
set_option linter.unusedSimpArgs false
set_option linter.unusedVariables false
attribute [local irreducible] RunX WP ACall AnyP OpA ProtL
set_option maxRecDepth 8000
theorem dd_small {u : Nat} (h : u < 10) : Lib.decDigits u = [UInt8.ofNat (48 + u)] := by rw [Lib.decDigits, dif_pos h]
theorem dd_big {u : Nat} (h : ¬ u < 10) : Lib.decDigits u = Lib.decDigits (u / 10) ++ [UInt8.ofNat (48 + u % 10)] := by rw [Lib.decDigits, dif_neg h]
theorem dg_fin : ∀ k, k < 10 → dig (UInt8.ofNat (48 + k)) = true ∧ Lib.digitVal (UInt8.ofNat (48 + k)) = some k ∧ UInt8.ofNat (48 + k) ≠ 10 := by decide +kernel
theorem dd_dig (u : Nat) : ∀ b ∈ Lib.decDigits u, dig b = true ∧ b ≠ 10 := by
  induction u using Nat.strongRecOn with
  | _ u ih =>
    intro b hb
    by_cases h : u < 10
    · rw [dd_small h] at hb
      obtain rfl := List.mem_singleton.1 hb
      exact ⟨(dg_fin u h).1, (dg_fin u h).2.2⟩
    · rw [dd_big h] at hb
      rcases List.mem_append.1 hb with hb | hb
      · exact ih (u / 10) (by omega) b hb
      · obtain rfl := List.mem_singleton.1 hb
        exact ⟨(dg_fin _ (Nat.mod_lt _ (by omega))).1, (dg_fin _ (Nat.mod_lt _ (by omega))).2.2⟩
theorem decFrom_app : ∀ (a b : List UInt8) (acc : Nat), Lib.decFrom acc (a ++ b) = (Lib.decFrom acc a).bind fun n => Lib.decFrom n b
  | [], _, _ => rfl
  | c :: a, b, acc => by
    simp only [List.cons_append, Lib.decFrom]
    cases Lib.digitVal c with
    | none => rfl
    | some d => exact decFrom_app a b _
theorem dd_dec (u : Nat) : Lib.decFrom 0 (Lib.decDigits u) = some u := by
  induction u using Nat.strongRecOn with
  | _ u ih =>
    by_cases h : u < 10
    · rw [dd_small h]
      simp only [Lib.decFrom, (dg_fin u h).2.1, Nat.zero_mul, Nat.zero_add]
    · rw [dd_big h, decFrom_app, ih (u / 10) (by omega)]
      simp only [Option.bind_some, Lib.decFrom, (dg_fin _ (Nat.mod_lt u (by omega : 0 < 10))).2.1, Option.some.injEq]
      omega
theorem dd_ne (u : Nat) : Lib.decDigits u ≠ [] := by
  by_cases h : u < 10
  · rw [dd_small h]; simp
  · rw [dd_big h]; simp
theorem dd_len : ∀ (k u : Nat), u < 10 ^ (k + 1) → (Lib.decDigits u).length ≤ k + 1 := by
  intro k
  induction k with
  | zero => intro u h; rw [dd_small (by simpa using h)]; simp
  | succ k ih =>
    intro u h
    by_cases hu : u < 10
    · rw [dd_small hu]; simp
    · rw [dd_big hu, List.length_append]
      have := ih (u / 10) (by rw [Nat.pow_succ] at h; omega)
      simp; omega
theorem dd_atoi (u : Nat) : Lib.atoi (Lib.decDigits u) = some (u : Int) := by
  cases hd : Lib.decDigits u with
  | nil => exact absurd hd (dd_ne u)
  | cons b r =>
    have hb := (dig_iff b).1 (dd_dig u b (by rw [hd]; simp)).1
    have e1 : (b == 45) = false := by simp; rintro rfl; simp at hb
    have e2 : (b == 43) = false := by simp; rintro rfl; simp at hb
    have := dd_dec u
    rw [hd] at this
    simp [Lib.atoi, e1, e2, Lib.decNat, this]
theorem takeWhile_all {p : UInt8 → Bool} : ∀ {l s : List UInt8}, (∀ b ∈ l, p b = true) → (∀ b r, s = b :: r → p b = false) → (l ++ s).takeWhile p = l ∧ (l ++ s).dropWhile p = s
  | [], s, _, hs => by
    cases s with
    | nil => simp
    | cons b r => simp [hs b r rfl]
  | c :: l, s, hl, hs => by
    have := takeWhile_all (l := l) (s := s) (fun b hb => hl b (List.mem_cons_of_mem _ hb)) hs
    simp [hl c (List.mem_cons_self ..), this]
def headNd (s : List UInt8) : Prop := ∀ b r, s = b :: r → dig b = false
theorem numP_itoa {n : Int} (h0 : 0 ≤ n) (h1 : n < 10000000) {s : List UInt8} (hs : headNd s) : numP (Lib.itoa n ++ s) = some (n, s) := by
  obtain ⟨u, rfl⟩ : ∃ u : Nat, n = u := ⟨n.toNat, by omega⟩
  rw [Lib.itoa_nonneg]
  have ht := takeWhile_all (l := Lib.decDigits u) (s := s) (fun b hb => (dd_dig u b hb).1) hs
  have hl := dd_len 6 u (by omega)
  have hne : 1 ≤ (Lib.decDigits u).length := by
    rcases Nat.eq_zero_or_pos (Lib.decDigits u).length with h | h
    · exact absurd (List.length_eq_zero_iff.1 h) (dd_ne u)
    · exact h
  unfold numP numB numV digL
  rw [ht.1, ht.2, dd_atoi, if_pos]
  · rfl
  · simp; omega
theorem oneP_app (lit s : List UInt8) : oneP lit (lit ++ s) = some s := by
  unfold oneP
  rw [if_pos (by simp)]
  simp
theorem sizeP_two {c r : Int} (c0 : 0 ≤ c) (c1 : c < 10000000) (r0 : 0 ≤ r) (r1 : r < 10000000) {s : List UInt8} (hs : headNd s) : sizeP (twoS c r ++ s) = some ((c, r), s) := by
  unfold sizeP twoS
  rw [List.append_assoc, List.append_assoc, numP_itoa c0 c1 (s := [32] ++ (Lib.itoa r ++ s)) (fun b q e => by cases e; decide)]
  simp only [oneP_app]
  rw [numP_itoa r0 r1 hs]
theorem hex_fin : ∀ n, n < 256 → hexV (hexC (n / 16)) (hexC (n % 16)) = some n := by decide +kernel
theorem unq_esc (acc : List UInt8) (c : UInt8) (rest : List UInt8) : unq acc (escB c ++ rest) = unq (acc ++ [c]) rest := by
  have hof : ∀ n, c.toNat = n → c = UInt8.ofNat n := fun n e => by rw [← e, UInt8.ofNat_toNat]
  unfold escB
  split
  · next h =>
    have h92 : (92 : UInt8).toNat = 92 := rfl
    simp only [List.cons_append, List.nil_append]
    rw [unq_cons]
    rw [if_neg (by rw [h92]; omega), if_neg (by rw [h92]; omega)]
    simp only
    rw [if_pos (by omega)]
  · split
    · next h =>
      have h92 : (92 : UInt8).toNat = 92 := rfl
      have h110 : (110 : UInt8).toNat = 110 := rfl
      simp only [List.cons_append, List.nil_append]
      rw [unq_cons]
      rw [if_neg (by rw [h92]; omega), if_neg (by rw [h92]; omega)]
      simp only
      rw [if_neg (by rw [h110]; omega), if_pos h110, hof 10 h]
      rfl
    · split
      · next h1 h2 h3 =>
        simp only [List.cons_append, List.nil_append]
        rw [unq_cons]
        rw [if_neg (by omega), if_pos (by omega), if_pos h3]
      · have h92 : (92 : UInt8).toNat = 92 := rfl
        have h120 : (120 : UInt8).toNat = 120 := rfl
        simp only [List.cons_append, List.nil_append]
        rw [unq_cons]
        rw [if_neg (by rw [h92]; omega), if_neg (by rw [h92]; omega)]
        simp only
        rw [if_neg (by rw [h120]; omega), if_neg (by rw [h120]; omega), if_pos h120, hex_fin c.toNat c.toNat_lt]
        simp only [UInt8.ofNat_toNat]
theorem unq_all : ∀ (t acc s : List UInt8), unq acc (t.flatMap escB ++ 34 :: s) = some (acc ++ t, s)
  | [], acc, s => by
    simp only [List.flatMap_nil, List.nil_append, List.append_nil]
    rw [unq_cons, if_pos (by rfl)]
  | c :: t, acc, s => by
    rw [List.flatMap_cons, List.append_assoc, unq_esc, unq_all t]
    simp
theorem quoP_quote (t s : List UInt8) : quoP (quoteS t ++ s) = some (t, s) := by
  unfold quoP quoteS
  have e : (34 :: (t.flatMap escB ++ [34])) ++ s = [34] ++ (t.flatMap escB ++ 34 :: s) := by simp
  rw [e, oneP_app]
  simp only
  rw [unq_all]
  simp
theorem kind_letter {k : Int} (h : k = 1 ∨ k = 2 ∨ k = 3 ∨ k = 4) : kindOf (letter k) = some k := by
  rcases h with rfl | rfl | rfl | rfl <;> decide
theorem item_kind {x : It} (h : itemB x = true) : (0 ≤ x.wait ∧ x.wait ≤ 1000000) ∧ (x.kind = 1 ∨ x.kind = 2 ∨ x.kind = 3 ∨ x.kind = 4) ∧ (x.kind = 3 → sizeB x.cols x.rows = true ∧ x.text = []) ∧ (x.kind ≠ 3 → x.cols = 0 ∧ x.rows = 0) := by
  unfold itemB at h
  simp only [Bool.and_eq_true, decide_eq_true_eq] at h
  refine ⟨h.1, ?_⟩
  obtain ⟨_, h⟩ := h
  split at h
  · next hk =>
    simp only [Bool.or_eq_true, beq_iff_eq] at hk
    simp only [Bool.and_eq_true, decide_eq_true_eq, beq_iff_eq] at h
    refine ⟨by omega, fun e => by omega, fun _ => ⟨h.1.2, h.2⟩⟩
  · split at h
    · next hk =>
      simp only [beq_iff_eq] at hk
      simp only [Bool.and_eq_true, decide_eq_true_eq, beq_iff_eq] at h
      refine ⟨by omega, fun e => by omega, fun _ => ⟨h.1.2, h.2⟩⟩
    · split at h
      · next hk =>
        simp only [beq_iff_eq] at hk
        simp only [Bool.and_eq_true, beq_iff_eq] at h
        exact ⟨by omega, fun _ => h, fun e => absurd hk e⟩
      · cases h
theorem size_bd {c r : Int} (h : sizeB c r = true) : 2 ≤ c ∧ c ≤ 80 ∧ 1 ≤ r ∧ r ≤ 40 := by
  unfold sizeB at h
  simp only [Bool.and_eq_true, decide_eq_true_eq] at h
  omega
theorem nd_cons {b : UInt8} (h : dig b = false) (s : List UInt8) : headNd (b :: s) := fun c r e => by cases e; exact h
theorem nd_one {b : UInt8} (h : dig b = false) (s : List UInt8) : headNd ([b] ++ s) := nd_cons h s
theorem itemP_line {x : It} (hx : itemB x = true) (s : List UInt8) : itemP (lineS x ++ s) = some (x, s) := by
  obtain ⟨hw, hk, h3, hn3⟩ := item_kind hx
  unfold itemP lineS
  have e : Lib.itoa x.wait ++ [32] ++ [letter x.kind] ++ [32] ++ (if x.kind = 3 then twoS x.cols x.rows else quoteS x.text) ++ [10] ++ s =
      Lib.itoa x.wait ++ ([32] ++ (letter x.kind :: ([32] ++ ((if x.kind = 3 then twoS x.cols x.rows else quoteS x.text) ++ ([10] ++ s))))) := by simp
  rw [e, numP_itoa hw.1 (by omega) (nd_one (by decide) _)]
  simp only [oneP_app, kind_letter hk]
  unfold kindP
  rw [oneP_app]
  simp only
  by_cases k3 : x.kind = 3
  · obtain ⟨hs, ht⟩ := h3 k3
    have hb := size_bd hs
    unfold restP
    rw [if_pos k3, if_pos k3, sizeP_two (by omega) (by omega) (by omega) (by omega) (nd_one (by decide) s)]
    simp only [oneP_app]
    obtain ⟨a, b, c, d, t⟩ := x
    simp only at ht
    rw [ht]
  · obtain ⟨hc, hr⟩ := hn3 k3
    unfold restP
    rw [if_neg k3, if_neg k3, quoP_quote]
    simp only [oneP_app]
    obtain ⟨a, b, c, d, t⟩ := x
    simp only at hc hr
    rw [hc, hr]
theorem line_cons (x : It) : ∃ c t, lineS x = c :: t := by
  unfold lineS
  cases h : Lib.itoa x.wait with
  | nil => exact ⟨_, _, rfl⟩
  | cons c t => exact ⟨_, _, rfl⟩
theorem itemsP_all : ∀ (l : List It) (n : Nat) (acc : List It), (∀ x ∈ l, itemB x = true) → l.length ≤ n → itemsP n acc (l.flatMap lineS) = some (acc ++ l)
  | [], n, acc, _, _ => by cases n <;> simp [itemsP]
  | x :: l, n, acc, h, hn => by
    obtain ⟨c, t, hc⟩ := line_cons x
    cases n with
    | zero => simp at hn
    | succ n =>
      have hx := itemP_line (h x (List.mem_cons_self ..)) (l.flatMap lineS)
      rw [List.flatMap_cons]
      rw [hc, List.cons_append] at hx ⊢
      simp only [itemsP, hx]
      rw [itemsP_all l n _ (fun y hy => h y (List.mem_cons_of_mem _ hy)) (by simpa using hn)]
      simp
theorem lines_len (l : List It) : l.length ≤ (l.flatMap lineS).length := by
  induction l with
  | nil => simp
  | cons x l ih =>
    obtain ⟨c, t, hc⟩ := line_cons x
    rw [List.flatMap_cons, hc, List.length_append, List.length_cons, List.length_cons]
    omega
theorem recP_print {r : Rec} (hc : checkB r = true) : recP (printS r) = some r := by
  unfold checkB at hc
  simp only [Bool.and_eq_true, decide_eq_true_eq, List.all_eq_true] at hc
  have hb := size_bd hc.1.1
  unfold recP printS bodyS headS
  rw [List.take_length]
  have e : ([102, 101, 110, 101, 115, 116, 114, 97, 32, 49, 32] ++ twoS r.cols r.rows ++ [10] ++ r.items.flatMap lineS : List UInt8) = [102, 101, 110, 101, 115, 116, 114, 97, 32, 49, 32] ++ (twoS r.cols r.rows ++ ([10] ++ r.items.flatMap lineS)) := by simp
  rw [e, oneP_app]
  simp only
  rw [sizeP_two (by omega) (by omega) (by omega) (by omega) (nd_one (by decide) _)]
  simp only [oneP_app]
  rw [itemsP_all r.items _ [] hc.2 (by have := lines_len r.items; simp only [List.length_append]; omega)]
  rfl
theorem print_inj {a b : Rec} (ha : checkB a = true) (hb : checkB b = true) : (printS a == printS b) = sameB a b := by
  rw [Bool.eq_iff_iff]
  simp only [beq_iff_eq, sameB, decide_eq_true_eq]
  constructor
  · intro h
    have := recP_print ha
    rw [h, recP_print hb] at this
    exact (Option.some.inj this).symm
  · intro h; rw [h]
theorem esc_nl : ∀ n, n < 256 → (escB (UInt8.ofNat n)).count 10 = 0 := by decide +kernel
theorem itoa_nl {n : Int} (h : 0 ≤ n) : (Lib.itoa n).count 10 = 0 := by
  obtain ⟨u, rfl⟩ : ∃ u : Nat, n = u := ⟨n.toNat, by omega⟩
  rw [Lib.itoa_nonneg, List.count_eq_zero]
  exact fun h => (dd_dig u 10 h).2 rfl
theorem quote_nl (t : List UInt8) : (quoteS t).count 10 = 0 := by
  have h : ∀ t : List UInt8, (t.flatMap escB).count 10 = 0 := by
    intro t
    induction t with
    | nil => rfl
    | cons c t ih =>
      rw [List.flatMap_cons, List.count_append, ih]
      have := esc_nl c.toNat c.toNat_lt
      rw [UInt8.ofNat_toNat] at this
      omega
  unfold quoteS
  rw [List.count_cons, List.count_append, h t]
  rfl
theorem two_nl {c r : Int} (c0 : 0 ≤ c) (r0 : 0 ≤ r) : (twoS c r).count 10 = 0 := by
  unfold twoS
  rw [List.count_append, List.count_append, itoa_nl c0, itoa_nl r0]; rfl
theorem line_nl {x : It} (hx : itemB x = true) : (lineS x).count 10 = 1 := by
  obtain ⟨hw, hk, h3, hn3⟩ := item_kind hx
  unfold lineS
  have hl : ([letter x.kind] : List UInt8).count 10 = 0 := by
    rcases hk with h | h | h | h <;> rw [h] <;> decide
  simp only [List.count_append, itoa_nl hw.1, hl]
  split
  · next k3 =>
    have := size_bd (h3 k3).1
    rw [two_nl (by omega) (by omega)]; rfl
  · rw [quote_nl]; rfl
theorem print_nl {r : Rec} (hc : checkB r = true) : (printS r).count 10 = r.items.length + 1 := by
  unfold checkB at hc
  simp only [Bool.and_eq_true, decide_eq_true_eq, List.all_eq_true] at hc
  have hb := size_bd hc.1.1
  unfold printS bodyS headS
  rw [List.take_length, List.count_append, List.count_append, List.count_append, two_nl (by omega) (by omega)]
  have hl : ∀ l : List It, (∀ x ∈ l, itemB x = true) → (l.flatMap lineS).count 10 = l.length := by
    intro l
    induction l with
    | nil => intro _; rfl
    | cons x l ih =>
      intro h
      rw [List.flatMap_cons, List.count_append, line_nl (h x (List.mem_cons_self ..)), ih fun y hy => h y (List.mem_cons_of_mem _ hy)]
      simp; omega
  rw [hl r.items hc.2]
  have h1 : ([102, 101, 110, 101, 115, 116, 114, 97, 32, 49, 32] : List UInt8).count 10 = 0 := by decide
  have h2 : ([10] : List UInt8).count 10 = 1 := by decide
  rw [h1, h2]; omega
theorem line_len {x : It} (hx : itemB x = true) (ht : x.text.length ≤ 200) : (lineS x).length ≤ 900 := by
  obtain ⟨hw, hk, h3, hn3⟩ := item_kind hx
  have h1 := Lib.itoa_length_le x.wait (by omega) (by omega)
  unfold lineS
  simp only [List.length_append, List.length_cons, List.length_nil]
  split
  · next k3 =>
    have hb := size_bd (h3 k3).1
    have h2 := Lib.itoa_length_le x.cols (by omega) (by omega)
    have h4 := Lib.itoa_length_le x.rows (by omega) (by omega)
    simp only [twoS, List.length_append, List.length_cons, List.length_nil]
    omega
  · have := flat_len x.text
    simp only [quoteS, List.length_append, List.length_cons, List.length_nil]
    omega
theorem print_len {r : Rec} (hc : checkB r = true) (h30 : r.items.length ≤ 30) (ht : ∀ x ∈ r.items, x.text.length ≤ 200) : (printS r).length ≤ 30000 := by
  unfold checkB at hc
  simp only [Bool.and_eq_true, decide_eq_true_eq, List.all_eq_true] at hc
  have hb := size_bd hc.1.1
  have h2 := Lib.itoa_length_le r.cols (by omega) (by omega)
  have h4 := Lib.itoa_length_le r.rows (by omega) (by omega)
  have hl : ∀ l : List It, (∀ x ∈ l, itemB x = true) → (∀ x ∈ l, x.text.length ≤ 200) → (l.flatMap lineS).length ≤ 900 * l.length := by
    intro l
    induction l with
    | nil => intro _ _; simp
    | cons x l ih =>
      intro h h'
      have a := line_len (h x (List.mem_cons_self ..)) (h' x (List.mem_cons_self ..))
      have b := ih (fun y hy => h y (List.mem_cons_of_mem _ hy)) (fun y hy => h' y (List.mem_cons_of_mem _ hy))
      rw [List.flatMap_cons, List.length_append, List.length_cons]
      omega
  have := hl r.items hc.2 ht
  unfold printS bodyS headS twoS
  rw [List.take_length]
  simp only [List.length_append, List.length_cons, List.length_nil]
  omega
end Go.Proofs.YtnndmokndgnidaaDoor
namespace Go.Proofs.YtnndmokndgnidaaDoor
open Go Go.Fen
set_option linter.unusedSimpArgs false
set_option linter.unusedVariables false
attribute [local irreducible] RunX WP ACall AnyP OpA ProtL
set_option maxRecDepth 8000
theorem countByte_eq (l : List UInt8) (c : UInt8) : (Lib.countByte l c : Int) = (l.count c : Nat) := rfl
theorem countNl (w0 : World) (S : List Blk) (s : List UInt8) (R : AOut → List Blk → Prop) (h : R (.ret (.int .i64 (s.count 10 : Nat))) S) : ACall Tryd.prog w0 22 [.str s, .str [10]] S R := by
  refine ACall.lib (vs := [.string ⟨s.toArray⟩, .string ⟨#[10]⟩]) (v := .int .i64 (s.count 10 : Nat)) (c := .int .i64 (s.count 10 : Nat)) (Go.Proofs.enters_of Tryd.func22 (by kernel_rfl) rfl) rfl rfl ?_ h
  intro w hb
  refine (Go.Proofs.Any.strings_Count_one Go.Proofs.Tryd.lays138 ⟨s.toArray⟩ 10 w).mono ?_
  rintro e w' ⟨rfl, rfl⟩
  refine ⟨by rw [← countByte_eq], RowKit.Below.refl _ _⟩
theorem draft_text (d : Dr) : ∀ x ∈ d.rcd.items, x.text.length ≤ 200 := by
  intro x hx
  obtain ⟨y, _, rfl⟩ := List.mem_map.1 (show x ∈ (d.items.take 30).map DIt.item from hx)
  unfold DIt.item
  split <;> simp <;> omega
set_option maxHeartbeats 40000000 in
theorem backLaw (w0 : World) (hT : Tab w0) (hS : Syn w0) (S : List Blk) (d d2 : Dr) (R : AOut → List Blk → Prop) (h : R (.ret (.bool true)) S) :
    ACall Tryd.prog w0 6 [d.av, d2.av] S R := by
  have hre1 := fun S' => recording w0 S' d
  have hre2 := fun S' => recording w0 S' d2
  have hc := rcd_check d
  have hc2 := rcd_check d2
  have hlen : d.rcd.items.length ≤ 30 := by simp [Dr.rcd]; omega
  have hlen2 : d2.rcd.items.length ≤ 30 := by simp [Dr.rcd]; omega
  have htx := draft_text d
  generalize d.rcd = r at hc hlen hre1 htx
  generalize d2.rcd = q at hc2 hlen2 hre2
  have hwo := works w0 hT (parseUint w0 hS)
  have hm : (r.items.length : Int) < 9223372036854775807 := by omega
  have hm2 : (q.items.length : Int) < 9223372036854775807 := by omega
  have hpl := print_len hc hlen htx
  have hrp := recP_print hc
  have hpp : parseS (printS r) = (r, 0) := by
    unfold parseS
    rw [if_neg (by omega), hrp]
    simp only [hc, if_true]
  have hnl := print_nl hc
  have hinj := print_inj hc hc2
  obtain ⟨b, hb⟩ : ∃ b, b = sameB r q := ⟨_, rfl⟩
  obtain ⟨s, hs⟩ : ∃ s, s = printS r := ⟨_, rfl⟩
  obtain ⟨t, ht⟩ : ∃ t, t = printS q := ⟨_, rfl⟩
  have k1 : (s == t) = b := by rw [hs, ht, hb]; exact hinj
  have k2 : IntKind.i64.wrap ((r.items.length : Int) + 1) = ((r.items.length + 1 : Nat) : Int) := by rw [IntWalk.i64_in _ (by omega)]; rfl
  have t1 : ∀ S' (R : AOut → List Blk → Prop), R (.ret r.av) S' → ACall Tryd.prog w0 8 [d.av] S' R := fun S' R h => hre1 S' R h
  have t2 : ∀ S' (R : AOut → List Blk → Prop), R (.ret q.av) S' → ACall Tryd.prog w0 8 [d2.av] S' R := fun S' R h => hre2 S' R h
  have t3 : ∀ S' (R : AOut → List Blk → Prop), R (.ret (.tup [.str s, .int .i64 0])) S' → ACall Tryd.prog w0 20 [r.av] S' R := fun S' R h => print w0 hT S' r hm R (by rw [hc, if_pos rfl, if_pos rfl, ← hs]; exact h)
  have t4 : ∀ S' (R : AOut → List Blk → Prop), R (.ret (.tup [.str t, .int .i64 0])) S' → ACall Tryd.prog w0 20 [q.av] S' R := fun S' R h => print w0 hT S' q hm2 R (by rw [hc2, if_pos rfl, if_pos rfl, ← ht]; exact h)
  have t5 : ∀ S' (R : AOut → List Blk → Prop), R (.ret (.tup [r.av, .int .i64 0])) S' → ACall Tryd.prog w0 21 [.str s] S' R := fun S' R h => parse w0 (parseUint w0 hS) S' s (by intro x hx; rw [hs, hrp] at hx; cases hx; exact hm) R (by rw [hs, hpp]; exact h)
  have t6 : ∀ S' (R : AOut → List Blk → Prop), R (.ret (.int .i64 0)) S' → ACall Tryd.prog w0 18 [r.av] S' R := fun S' R h => check w0 S' r hm R (by rw [if_pos hc]; exact h)
  have t7 : ∀ S' (R : AOut → List Blk → Prop), R (.ret (.bool true)) S' → ACall Tryd.prog w0 15 [r.av, r.av] S' R := fun S' R h => refSame w0 S' r r hm R (by simpa [sameB] using h)
  have t8 : ∀ S' (R : AOut → List Blk → Prop), R (.ret (.bool b)) S' → ACall Tryd.prog w0 15 [r.av, q.av] S' R := fun S' R h => refSame w0 S' r q hm R (by rw [← hb]; exact h)
  have t9 : ∀ S' (R : AOut → List Blk → Prop), R (.ret (.int .i64 ((r.items.length + 1 : Nat) : Int))) S' → ACall Tryd.prog w0 22 [.str s, .str [10]] S' R := fun S' R h => countNl w0 S' s R (by rw [hs, hnl]; exact h)
  clear hre1 hre2 hc hc2 hlen hlen2 htx hpl hrp hpp hnl hinj hm hm2 hT hS hb hs ht
  unfold Rec.av at t1 t2 t3 t4 t5 t6 t7 t8
  unfold Dr.av at t1 t2 ⊢
  replace hwo := Lib.hid hwo
  replace t1 := Lib.hid t1
  replace t2 := Lib.hid t2
  replace t3 := Lib.hid t3
  replace t4 := Lib.hid t4
  replace t5 := Lib.hid t5
  replace t6 := Lib.hid t6
  replace t7 := Lib.hid t7
  replace t8 := Lib.hid t8
  replace t9 := Lib.hid t9
  refine enter Tryd.func6 rfl (by decide +kernel) (by rw [Tryd.ntmps6]; simp) (by rw [Tryd.ntmps6]; decide) (fun hO => ?_); rw [Tryd.ntmps6]
  refine share ?K1 ?hK1 fun key1 => share ?K2 ?hK2 fun key2 => ?main
  case main =>
    repeat' first
      | apply x_seq | apply x_skip | apply x_block | apply x_exit | apply x_ret | apply x_ops_nil | apply p_blk | apply p_exit_it | apply p_exit_hit | apply p_ret_it | apply p_ret_blk | apply p_panic_it | apply p_panic_blk | apply p_end
      | (apply p_exit_miss; (focus rfl))
      | (apply x_region; simp only [List.toList_toArray])
      | (apply x_step0; (focus rfl); (focus (simp only [go_sem, *]; (try rfl); done)); (focus rfl); simp only [putA])
      | (apply x_callA []; (focus (simp only [go_sem, *]; (try rfl); done)); (focus rfl); (focus (simp only [go_sem, *]; (try rfl); done)); (focus rfl); (iterate 2 (focus (simp only [go_sem, *]; (try rfl); done))); (first | (apply hwo.out) | (apply t1.out) | (apply t2.out)); simp only [afterCall, putA])
      | (apply x_panic; (focus (simp only [go_sem, *]; (try rfl); done)); (focus rfl); (focus (simp only [go_sem, *]; (try rfl); done)))
      | (apply x_step; (iterate 2 (focus (simp only [go_sem, *]; (try rfl); done))); (focus rfl); simp only [putA])
      | (apply x_unwanted; (focus (simp only [go_sem, *]; (try rfl); done)); (focus rfl); simp only [putA])
      | (apply x_condT; (focus (simp only [go_sem, *]; (try rfl); done)))
      | (apply x_condF; (focus (simp only [go_sem, *]; (try rfl); done)))
      | (apply x_guardS; (focus rfl); (fail_if_success (focus (show _ = some true; (focus (simp only [go_sem, *]; (try rfl); done))))); (focus (simp only [go_sem, *]; (try rfl); done)); all_goals (intro hb; try simp only [Bool.not_eq_true', Bool.not_eq_false'] at hb))
      | (apply x_condS; (focus (simp only [go_sem, *]; (try rfl); done)); all_goals (intro hb; try simp only [Bool.not_eq_true', Bool.not_eq_false'] at hb))
      | (apply d_draw; (focus exact mixed); (focus ((simp only [List.size_toArray, List.length_cons, List.length_nil, Nat.reduceAdd]; try rfl); done)))
      | (apply d_done; (focus decide +kernel))
      | ((first | (apply d_take 0; (focus decide +kernel)) | (apply d_take 1; (focus decide +kernel)) | (apply d_take 2; (focus decide +kernel)) | (apply d_take 3; (focus decide +kernel)) | (apply d_take 4; (focus decide +kernel)) | (apply d_take 5; (focus decide +kernel)) | (apply d_take 6; (focus decide +kernel)) | (apply d_take 7; (focus decide +kernel)) | (apply d_take 8; (focus decide +kernel)) | (apply d_take 9; (focus decide +kernel)) | (apply d_take 10; (focus decide +kernel)) | (apply d_take 11; (focus decide +kernel)) | (apply d_take 12; (focus decide +kernel)) | (apply d_take 13; (focus decide +kernel)) | (apply d_take 14; (focus decide +kernel)) | (apply d_take 15; (focus decide +kernel)) | (apply d_take 16; (focus decide +kernel)) | (apply d_take 17; (focus decide +kernel))); (focus (first | exact qds_FPost | exact qds_RPost | exact qds_YB | assumption)); (focus rfl); (iterate 3 (focus (simp only [go_sem, *]; (try rfl); done))); (focus rfl); (focus (simp only [go_sem, *]; (try rfl); done)); simp only [putA])
      | ((first | (apply d_unw 0; (focus decide +kernel)) | (apply d_unw 1; (focus decide +kernel)) | (apply d_unw 2; (focus decide +kernel)) | (apply d_unw 3; (focus decide +kernel)) | (apply d_unw 4; (focus decide +kernel)) | (apply d_unw 5; (focus decide +kernel)) | (apply d_unw 6; (focus decide +kernel)) | (apply d_unw 7; (focus decide +kernel)) | (apply d_unw 8; (focus decide +kernel)) | (apply d_unw 9; (focus decide +kernel)) | (apply d_unw 10; (focus decide +kernel)) | (apply d_unw 11; (focus decide +kernel)) | (apply d_unw 12; (focus decide +kernel)) | (apply d_unw 13; (focus decide +kernel)) | (apply d_unw 14; (focus decide +kernel)) | (apply d_unw 15; (focus decide +kernel)) | (apply d_unw 16; (focus decide +kernel)) | (apply d_unw 17; (focus decide +kernel))); (focus (first | exact qds_FPost | exact qds_RPost | exact qds_YB | assumption)); (focus rfl); (iterate 2 (focus (simp only [go_sem, *]; (try rfl); done))); (focus rfl); simp only [putA])
      | (first | (apply d_one 0; (focus decide +kernel)) | (apply d_one 1; (focus decide +kernel)) | (apply d_one 2; (focus decide +kernel)) | (apply d_one 3; (focus decide +kernel)) | (apply d_one 4; (focus decide +kernel)) | (apply d_one 5; (focus decide +kernel)) | (apply d_one 6; (focus decide +kernel)) | (apply d_one 7; (focus decide +kernel)) | (apply d_one 8; (focus decide +kernel)) | (apply d_one 9; (focus decide +kernel)) | (apply d_one 10; (focus decide +kernel)) | (apply d_one 11; (focus decide +kernel)) | (apply d_one 12; (focus decide +kernel)) | (apply d_one 13; (focus decide +kernel)) | (apply d_one 14; (focus decide +kernel)) | (apply d_one 15; (focus decide +kernel)) | (apply d_one 16; (focus decide +kernel)) | (apply d_one 17; (focus decide +kernel)))
      | (apply d_three 1 4 5; (focus decide +kernel))
      | (apply d_two 1 4; (focus decide +kernel))
      | (apply d_two 1 5; (focus decide +kernel))
      | (apply d_two 4 5; (focus decide +kernel))
      | (apply d_three 3 4 5; (focus decide +kernel))
      | (apply d_two 3 4; (focus decide +kernel))
      | (apply d_two 3 5; (focus decide +kernel))
      | (apply o_step; (iterate 3 (focus (simp only [go_sem, *]; (try rfl); done))); (focus rfl); simp only [putA])
      | (apply o_unw; (iterate 2 (focus (simp only [go_sem, *]; (try rfl); done))); (focus rfl); simp only [putA])
      | apply pr_nil | apply pr_same | apply pr_go | apply pl_nil | apply pl_none | (apply pl_skip; (focus decide +kernel)) | (apply pl_one; (focus (simp only [go_sem, *]; (try rfl); done)))
      | (apply o_call []; (iterate 2 (focus (simp only [go_sem, *]; (try rfl); done))); (focus rfl); (focus (simp only [go_sem, *]; (try rfl); done)); (focus rfl); (iterate 2 (focus (simp only [go_sem, *]; (try rfl); done))); (first | (apply hwo.out) | (apply t1.out) | (apply t2.out)); simp only [afterOp, putA])
    all_goals
      refine x_gen [1000000, 5, 6, 20] ?_
      simp only [agreeL, go_sem]
      first | exact key1 | exact key2
  case hK1 =>
    rintro env ⟨e0, e5, e6, e20⟩
    repeat' first
      | apply x_seq | apply x_skip | apply x_block | apply x_exit | apply x_ret | apply x_ops_nil | apply p_blk | apply p_exit_it | apply p_exit_hit | apply p_ret_it | apply p_ret_blk | apply p_panic_it | apply p_panic_blk | apply p_end
      | (apply p_exit_miss; (focus rfl))
      | (apply x_region; simp only [List.toList_toArray])
      | (apply x_step0; (focus rfl); (focus (simp only [go_sem, *]; (try rfl); done)); (focus rfl); simp only [putA])
      | (apply x_callA []; (focus (simp only [go_sem, *]; (try rfl); done)); (focus rfl); (focus (simp only [go_sem, *]; (try rfl); done)); (focus rfl); (iterate 2 (focus (simp only [go_sem, *]; (try rfl); done))); (first | (apply t3.out) | (apply t4.out) | (apply t5.out) | (apply t6.out) | (apply t7.out) | (apply t8.out) | (apply t9.out)); simp only [afterCall, putA])
      | (apply x_panic; (focus (simp only [go_sem, *]; (try rfl); done)); (focus rfl); (focus (simp only [go_sem, *]; (try rfl); done)))
      | (apply x_step; (iterate 2 (focus (simp only [go_sem, *]; (try rfl); done))); (focus rfl); simp only [putA])
      | (apply x_unwanted; (focus (simp only [go_sem, *]; (try rfl); done)); (focus rfl); simp only [putA])
      | (apply x_condT; (focus (simp only [go_sem, *]; (try rfl); done)))
      | (apply x_condF; (focus (simp only [go_sem, *]; (try rfl); done)))
      | (apply x_guardS; (focus rfl); (fail_if_success (focus (show _ = some true; (focus (simp only [go_sem, *]; (try rfl); done))))); (focus (simp only [go_sem, *]; (try rfl); done)); all_goals (intro hb; try simp only [Bool.not_eq_true', Bool.not_eq_false'] at hb))
      | (apply x_condS; (focus (simp only [go_sem, *]; (try rfl); done)); all_goals (intro hb; try simp only [Bool.not_eq_true', Bool.not_eq_false'] at hb))
      | (apply d_draw; (focus exact mixed); (focus ((simp only [List.size_toArray, List.length_cons, List.length_nil, Nat.reduceAdd]; try rfl); done)))
      | (apply d_done; (focus decide +kernel))
      | ((first | (apply d_lt 7; (focus decide +kernel); (first | (apply d_take 0; (focus decide +kernel)) | (apply d_take 1; (focus decide +kernel)) | (apply d_take 2; (focus decide +kernel)) | (apply d_take 3; (focus decide +kernel)) | (apply d_take 4; (focus decide +kernel)) | (apply d_take 5; (focus decide +kernel)) | (apply d_take 6; (focus decide +kernel)))) | (apply d_lt 14; (focus decide +kernel); (first | (apply d_take 7; (focus decide +kernel)) | (apply d_take 8; (focus decide +kernel)) | (apply d_take 9; (focus decide +kernel)) | (apply d_take 10; (focus decide +kernel)) | (apply d_take 11; (focus decide +kernel)) | (apply d_take 12; (focus decide +kernel)) | (apply d_take 13; (focus decide +kernel)))) | (apply d_lt 21; (focus decide +kernel); (first | (apply d_take 14; (focus decide +kernel)) | (apply d_take 15; (focus decide +kernel)) | (apply d_take 16; (focus decide +kernel)) | (apply d_take 17; (focus decide +kernel)) | (apply d_take 18; (focus decide +kernel)) | (apply d_take 19; (focus decide +kernel)) | (apply d_take 20; (focus decide +kernel)))) | (apply d_lt 28; (focus decide +kernel); (first | (apply d_take 21; (focus decide +kernel)) | (apply d_take 22; (focus decide +kernel)) | (apply d_take 23; (focus decide +kernel)) | (apply d_take 24; (focus decide +kernel)) | (apply d_take 25; (focus decide +kernel)) | (apply d_take 26; (focus decide +kernel)) | (apply d_take 27; (focus decide +kernel)))) | (apply d_lt 35; (focus decide +kernel); (first | (apply d_take 28; (focus decide +kernel)) | (apply d_take 29; (focus decide +kernel)) | (apply d_take 30; (focus decide +kernel)) | (apply d_take 31; (focus decide +kernel)) | (apply d_take 32; (focus decide +kernel)) | (apply d_take 33; (focus decide +kernel)) | (apply d_take 34; (focus decide +kernel)))) | (apply d_lt 40; (focus decide +kernel); (first | (apply d_take 35; (focus decide +kernel)) | (apply d_take 36; (focus decide +kernel)) | (apply d_take 37; (focus decide +kernel)) | (apply d_take 38; (focus decide +kernel)) | (apply d_take 39; (focus decide +kernel))))); (focus (first | exact qds_FPost | exact qds_RPost | exact qds_YB | assumption)); (focus rfl); (iterate 3 (focus (simp only [go_sem, *]; (try rfl); done))); (focus rfl); (focus (simp only [go_sem, *]; (try rfl); done)); simp only [putA])
      | ((first | (apply d_lt 7; (focus decide +kernel); (first | (apply d_unw 0; (focus decide +kernel)) | (apply d_unw 1; (focus decide +kernel)) | (apply d_unw 2; (focus decide +kernel)) | (apply d_unw 3; (focus decide +kernel)) | (apply d_unw 4; (focus decide +kernel)) | (apply d_unw 5; (focus decide +kernel)) | (apply d_unw 6; (focus decide +kernel)))) | (apply d_lt 14; (focus decide +kernel); (first | (apply d_unw 7; (focus decide +kernel)) | (apply d_unw 8; (focus decide +kernel)) | (apply d_unw 9; (focus decide +kernel)) | (apply d_unw 10; (focus decide +kernel)) | (apply d_unw 11; (focus decide +kernel)) | (apply d_unw 12; (focus decide +kernel)) | (apply d_unw 13; (focus decide +kernel)))) | (apply d_lt 21; (focus decide +kernel); (first | (apply d_unw 14; (focus decide +kernel)) | (apply d_unw 15; (focus decide +kernel)) | (apply d_unw 16; (focus decide +kernel)) | (apply d_unw 17; (focus decide +kernel)) | (apply d_unw 18; (focus decide +kernel)) | (apply d_unw 19; (focus decide +kernel)) | (apply d_unw 20; (focus decide +kernel)))) | (apply d_lt 28; (focus decide +kernel); (first | (apply d_unw 21; (focus decide +kernel)) | (apply d_unw 22; (focus decide +kernel)) | (apply d_unw 23; (focus decide +kernel)) | (apply d_unw 24; (focus decide +kernel)) | (apply d_unw 25; (focus decide +kernel)) | (apply d_unw 26; (focus decide +kernel)) | (apply d_unw 27; (focus decide +kernel)))) | (apply d_lt 35; (focus decide +kernel); (first | (apply d_unw 28; (focus decide +kernel)) | (apply d_unw 29; (focus decide +kernel)) | (apply d_unw 30; (focus decide +kernel)) | (apply d_unw 31; (focus decide +kernel)) | (apply d_unw 32; (focus decide +kernel)) | (apply d_unw 33; (focus decide +kernel)) | (apply d_unw 34; (focus decide +kernel)))) | (apply d_lt 40; (focus decide +kernel); (first | (apply d_unw 35; (focus decide +kernel)) | (apply d_unw 36; (focus decide +kernel)) | (apply d_unw 37; (focus decide +kernel)) | (apply d_unw 38; (focus decide +kernel)) | (apply d_unw 39; (focus decide +kernel))))); (focus (first | exact qds_FPost | exact qds_RPost | exact qds_YB | assumption)); (focus rfl); (iterate 2 (focus (simp only [go_sem, *]; (try rfl); done))); (focus rfl); simp only [putA])
      | (first | (apply d_lt1 7; (focus decide +kernel); (first | (apply d_one 0; (focus decide +kernel)) | (apply d_one 1; (focus decide +kernel)) | (apply d_one 2; (focus decide +kernel)) | (apply d_one 3; (focus decide +kernel)) | (apply d_one 4; (focus decide +kernel)) | (apply d_one 5; (focus decide +kernel)) | (apply d_one 6; (focus decide +kernel)))) | (apply d_lt1 14; (focus decide +kernel); (first | (apply d_one 7; (focus decide +kernel)) | (apply d_one 8; (focus decide +kernel)) | (apply d_one 9; (focus decide +kernel)) | (apply d_one 10; (focus decide +kernel)) | (apply d_one 11; (focus decide +kernel)) | (apply d_one 12; (focus decide +kernel)) | (apply d_one 13; (focus decide +kernel)))) | (apply d_lt1 21; (focus decide +kernel); (first | (apply d_one 14; (focus decide +kernel)) | (apply d_one 15; (focus decide +kernel)) | (apply d_one 16; (focus decide +kernel)) | (apply d_one 17; (focus decide +kernel)) | (apply d_one 18; (focus decide +kernel)) | (apply d_one 19; (focus decide +kernel)) | (apply d_one 20; (focus decide +kernel)))) | (apply d_lt1 28; (focus decide +kernel); (first | (apply d_one 21; (focus decide +kernel)) | (apply d_one 22; (focus decide +kernel)) | (apply d_one 23; (focus decide +kernel)) | (apply d_one 24; (focus decide +kernel)) | (apply d_one 25; (focus decide +kernel)) | (apply d_one 26; (focus decide +kernel)) | (apply d_one 27; (focus decide +kernel)))) | (apply d_lt1 35; (focus decide +kernel); (first | (apply d_one 28; (focus decide +kernel)) | (apply d_one 29; (focus decide +kernel)) | (apply d_one 30; (focus decide +kernel)) | (apply d_one 31; (focus decide +kernel)) | (apply d_one 32; (focus decide +kernel)) | (apply d_one 33; (focus decide +kernel)) | (apply d_one 34; (focus decide +kernel)))) | (apply d_lt1 40; (focus decide +kernel); (first | (apply d_one 35; (focus decide +kernel)) | (apply d_one 36; (focus decide +kernel)) | (apply d_one 37; (focus decide +kernel)) | (apply d_one 38; (focus decide +kernel)) | (apply d_one 39; (focus decide +kernel)))))
      | (apply o_step; (iterate 3 (focus (simp only [go_sem, *]; (try rfl); done))); (focus rfl); simp only [putA])
      | (apply o_unw; (iterate 2 (focus (simp only [go_sem, *]; (try rfl); done))); (focus rfl); simp only [putA])
      | apply pr_nil | apply pr_same | apply pr_go | apply pl_nil | apply pl_none | (apply pl_skip; (focus decide +kernel)) | (apply pl_one; (focus (simp only [go_sem, *]; (try rfl); done)))
      | (apply o_call []; (iterate 2 (focus (simp only [go_sem, *]; (try rfl); done))); (focus rfl); (focus (simp only [go_sem, *]; (try rfl); done)); (focus rfl); (iterate 2 (focus (simp only [go_sem, *]; (try rfl); done))); (first | (apply t3.out) | (apply t4.out) | (apply t5.out) | (apply t6.out) | (apply t7.out) | (apply t8.out) | (apply t9.out)); simp only [afterOp, putA])
    (apply f_ret; iterate 7 (focus (simp only [go_sem, *, Tryd.results6]; (try rfl); done)))
    exact h
  case hK2 =>
    rintro env ⟨e0, e5, e6, e20⟩
    repeat' first
      | apply x_seq | apply x_skip | apply x_block | apply x_exit | apply x_ret | apply x_ops_nil | apply p_blk | apply p_exit_it | apply p_exit_hit | apply p_ret_it | apply p_ret_blk | apply p_panic_it | apply p_panic_blk | apply p_end
      | (apply p_exit_miss; (focus rfl))
      | (apply x_region; simp only [List.toList_toArray])
      | (apply x_step0; (focus rfl); (focus (simp only [go_sem, *]; (try rfl); done)); (focus rfl); simp only [putA])
      | (apply x_callA []; (focus (simp only [go_sem, *]; (try rfl); done)); (focus rfl); (focus (simp only [go_sem, *]; (try rfl); done)); (focus rfl); (iterate 2 (focus (simp only [go_sem, *]; (try rfl); done))); (first | (apply t3.out) | (apply t4.out) | (apply t5.out) | (apply t6.out) | (apply t7.out) | (apply t8.out) | (apply t9.out)); simp only [afterCall, putA])
      | (apply x_panic; (focus (simp only [go_sem, *]; (try rfl); done)); (focus rfl); (focus (simp only [go_sem, *]; (try rfl); done)))
      | (apply x_step; (iterate 2 (focus (simp only [go_sem, *]; (try rfl); done))); (focus rfl); simp only [putA])
      | (apply x_unwanted; (focus (simp only [go_sem, *]; (try rfl); done)); (focus rfl); simp only [putA])
      | (apply x_condT; (focus (simp only [go_sem, *]; (try rfl); done)))
      | (apply x_condF; (focus (simp only [go_sem, *]; (try rfl); done)))
      | (apply x_guardS; (focus rfl); (fail_if_success (focus (show _ = some true; (focus (simp only [go_sem, *]; (try rfl); done))))); (focus (simp only [go_sem, *]; (try rfl); done)); all_goals (intro hb; try simp only [Bool.not_eq_true', Bool.not_eq_false'] at hb))
      | (apply x_condS; (focus (simp only [go_sem, *]; (try rfl); done)); all_goals (intro hb; try simp only [Bool.not_eq_true', Bool.not_eq_false'] at hb))
      | (apply d_draw; (focus exact mixed); (focus ((simp only [List.size_toArray, List.length_cons, List.length_nil, Nat.reduceAdd]; try rfl); done)))
      | (apply d_done; (focus decide +kernel))
      | ((first | (apply d_lt 7; (focus decide +kernel); (first | (apply d_take 0; (focus decide +kernel)) | (apply d_take 1; (focus decide +kernel)) | (apply d_take 2; (focus decide +kernel)) | (apply d_take 3; (focus decide +kernel)) | (apply d_take 4; (focus decide +kernel)) | (apply d_take 5; (focus decide +kernel)) | (apply d_take 6; (focus decide +kernel)))) | (apply d_lt 14; (focus decide +kernel); (first | (apply d_take 7; (focus decide +kernel)) | (apply d_take 8; (focus decide +kernel)) | (apply d_take 9; (focus decide +kernel)) | (apply d_take 10; (focus decide +kernel)) | (apply d_take 11; (focus decide +kernel)) | (apply d_take 12; (focus decide +kernel)) | (apply d_take 13; (focus decide +kernel)))) | (apply d_lt 21; (focus decide +kernel); (first | (apply d_take 14; (focus decide +kernel)) | (apply d_take 15; (focus decide +kernel)) | (apply d_take 16; (focus decide +kernel)) | (apply d_take 17; (focus decide +kernel)) | (apply d_take 18; (focus decide +kernel)) | (apply d_take 19; (focus decide +kernel)) | (apply d_take 20; (focus decide +kernel)))) | (apply d_lt 28; (focus decide +kernel); (first | (apply d_take 21; (focus decide +kernel)) | (apply d_take 22; (focus decide +kernel)) | (apply d_take 23; (focus decide +kernel)) | (apply d_take 24; (focus decide +kernel)) | (apply d_take 25; (focus decide +kernel)) | (apply d_take 26; (focus decide +kernel)) | (apply d_take 27; (focus decide +kernel)))) | (apply d_lt 35; (focus decide +kernel); (first | (apply d_take 28; (focus decide +kernel)) | (apply d_take 29; (focus decide +kernel)) | (apply d_take 30; (focus decide +kernel)) | (apply d_take 31; (focus decide +kernel)) | (apply d_take 32; (focus decide +kernel)) | (apply d_take 33; (focus decide +kernel)) | (apply d_take 34; (focus decide +kernel)))) | (apply d_lt 40; (focus decide +kernel); (first | (apply d_take 35; (focus decide +kernel)) | (apply d_take 36; (focus decide +kernel)) | (apply d_take 37; (focus decide +kernel)) | (apply d_take 38; (focus decide +kernel)) | (apply d_take 39; (focus decide +kernel))))); (focus (first | exact qds_FPost | exact qds_RPost | exact qds_YB | assumption)); (focus rfl); (iterate 3 (focus (simp only [go_sem, *]; (try rfl); done))); (focus rfl); (focus (simp only [go_sem, *]; (try rfl); done)); simp only [putA])
      | ((first | (apply d_lt 7; (focus decide +kernel); (first | (apply d_unw 0; (focus decide +kernel)) | (apply d_unw 1; (focus decide +kernel)) | (apply d_unw 2; (focus decide +kernel)) | (apply d_unw 3; (focus decide +kernel)) | (apply d_unw 4; (focus decide +kernel)) | (apply d_unw 5; (focus decide +kernel)) | (apply d_unw 6; (focus decide +kernel)))) | (apply d_lt 14; (focus decide +kernel); (first | (apply d_unw 7; (focus decide +kernel)) | (apply d_unw 8; (focus decide +kernel)) | (apply d_unw 9; (focus decide +kernel)) | (apply d_unw 10; (focus decide +kernel)) | (apply d_unw 11; (focus decide +kernel)) | (apply d_unw 12; (focus decide +kernel)) | (apply d_unw 13; (focus decide +kernel)))) | (apply d_lt 21; (focus decide +kernel); (first | (apply d_unw 14; (focus decide +kernel)) | (apply d_unw 15; (focus decide +kernel)) | (apply d_unw 16; (focus decide +kernel)) | (apply d_unw 17; (focus decide +kernel)) | (apply d_unw 18; (focus decide +kernel)) | (apply d_unw 19; (focus decide +kernel)) | (apply d_unw 20; (focus decide +kernel)))) | (apply d_lt 28; (focus decide +kernel); (first | (apply d_unw 21; (focus decide +kernel)) | (apply d_unw 22; (focus decide +kernel)) | (apply d_unw 23; (focus decide +kernel)) | (apply d_unw 24; (focus decide +kernel)) | (apply d_unw 25; (focus decide +kernel)) | (apply d_unw 26; (focus decide +kernel)) | (apply d_unw 27; (focus decide +kernel)))) | (apply d_lt 35; (focus decide +kernel); (first | (apply d_unw 28; (focus decide +kernel)) | (apply d_unw 29; (focus decide +kernel)) | (apply d_unw 30; (focus decide +kernel)) | (apply d_unw 31; (focus decide +kernel)) | (apply d_unw 32; (focus decide +kernel)) | (apply d_unw 33; (focus decide +kernel)) | (apply d_unw 34; (focus decide +kernel)))) | (apply d_lt 40; (focus decide +kernel); (first | (apply d_unw 35; (focus decide +kernel)) | (apply d_unw 36; (focus decide +kernel)) | (apply d_unw 37; (focus decide +kernel)) | (apply d_unw 38; (focus decide +kernel)) | (apply d_unw 39; (focus decide +kernel))))); (focus (first | exact qds_FPost | exact qds_RPost | exact qds_YB | assumption)); (focus rfl); (iterate 2 (focus (simp only [go_sem, *]; (try rfl); done))); (focus rfl); simp only [putA])
      | (first | (apply d_lt1 7; (focus decide +kernel); (first | (apply d_one 0; (focus decide +kernel)) | (apply d_one 1; (focus decide +kernel)) | (apply d_one 2; (focus decide +kernel)) | (apply d_one 3; (focus decide +kernel)) | (apply d_one 4; (focus decide +kernel)) | (apply d_one 5; (focus decide +kernel)) | (apply d_one 6; (focus decide +kernel)))) | (apply d_lt1 14; (focus decide +kernel); (first | (apply d_one 7; (focus decide +kernel)) | (apply d_one 8; (focus decide +kernel)) | (apply d_one 9; (focus decide +kernel)) | (apply d_one 10; (focus decide +kernel)) | (apply d_one 11; (focus decide +kernel)) | (apply d_one 12; (focus decide +kernel)) | (apply d_one 13; (focus decide +kernel)))) | (apply d_lt1 21; (focus decide +kernel); (first | (apply d_one 14; (focus decide +kernel)) | (apply d_one 15; (focus decide +kernel)) | (apply d_one 16; (focus decide +kernel)) | (apply d_one 17; (focus decide +kernel)) | (apply d_one 18; (focus decide +kernel)) | (apply d_one 19; (focus decide +kernel)) | (apply d_one 20; (focus decide +kernel)))) | (apply d_lt1 28; (focus decide +kernel); (first | (apply d_one 21; (focus decide +kernel)) | (apply d_one 22; (focus decide +kernel)) | (apply d_one 23; (focus decide +kernel)) | (apply d_one 24; (focus decide +kernel)) | (apply d_one 25; (focus decide +kernel)) | (apply d_one 26; (focus decide +kernel)) | (apply d_one 27; (focus decide +kernel)))) | (apply d_lt1 35; (focus decide +kernel); (first | (apply d_one 28; (focus decide +kernel)) | (apply d_one 29; (focus decide +kernel)) | (apply d_one 30; (focus decide +kernel)) | (apply d_one 31; (focus decide +kernel)) | (apply d_one 32; (focus decide +kernel)) | (apply d_one 33; (focus decide +kernel)) | (apply d_one 34; (focus decide +kernel)))) | (apply d_lt1 40; (focus decide +kernel); (first | (apply d_one 35; (focus decide +kernel)) | (apply d_one 36; (focus decide +kernel)) | (apply d_one 37; (focus decide +kernel)) | (apply d_one 38; (focus decide +kernel)) | (apply d_one 39; (focus decide +kernel)))))
      | (apply o_step; (iterate 3 (focus (simp only [go_sem, *]; (try rfl); done))); (focus rfl); simp only [putA])
      | (apply o_unw; (iterate 2 (focus (simp only [go_sem, *]; (try rfl); done))); (focus rfl); simp only [putA])
      | apply pr_nil | apply pr_same | apply pr_go | apply pl_nil | apply pl_none | (apply pl_skip; (focus decide +kernel)) | (apply pl_one; (focus (simp only [go_sem, *]; (try rfl); done)))
      | (apply o_call []; (iterate 2 (focus (simp only [go_sem, *]; (try rfl); done))); (focus rfl); (focus (simp only [go_sem, *]; (try rfl); done)); (focus rfl); (iterate 2 (focus (simp only [go_sem, *]; (try rfl); done))); (first | (apply t3.out) | (apply t4.out) | (apply t5.out) | (apply t6.out) | (apply t7.out) | (apply t8.out) | (apply t9.out)); simp only [afterOp, putA])
    (apply f_ret; iterate 7 (focus (simp only [go_sem, *, Tryd.results6]; (try rfl); done)))
    exact h
end Go.Proofs.YtnndmokndgnidaaDoor
namespace Go.Proofs.YtnndmokndgnidaaDoor
open Go Go.Fen
set_option linter.unusedSimpArgs false
set_option linter.unusedVariables false
attribute [local irreducible] RunX WP ACall AnyP OpA ProtL
set_option maxRecDepth 8000
namespace RecordBack
theorem contract (H : Type) (enc : TypeId × Value → H) (W : World) (base : Nat) (args : Array Value) (ds gs : List (DataW H)) (before : List MemPlace)
    (hval : ∀ (j : Nat) t v, Tryd.f6.params[j]? = some t → args[j]? = some v → Value.okWide Tryd.prog W .any base t v)
    (hW : DataW.Whole enc Tryd.prog Tryd.f6.params.toList Rows.recordBackSpec.vars false W args.toList ds gs before) (hL : laidMetH Tryd.prog seatLaid W) :
    Calls Tryd.prog 6 args W fun e W' => ∃ v, e = .returned v ∧ Rows.recordBackSpec.post enc Tryd.prog Tryd.f6 false true false false W args v W' := by
  refine law_close (n := 20) (tb := 4) [draftSk, draftSk] laidOut ?_ (by rw [Tryd.params6]; kernel_rfl) (by kernel_rfl) un_4 rfl ?_ hW hval ?_
  · rw [Tryd.params6]
    have : ([27, 27].all fun t => Tryd.prog.readableRec t && decide (t < Tryd.prog.types.size)) = true := by kernel_rfl
    intro t ht
    simpa using List.all_eq_true.1 this t (by simpa using ht)
  · intro h
    rw [Tryd.params6] at h
    match ds, h with
    | [d1, d2], _ => rfl
  · intro avs ha
    obtain ⟨y1, r1, h1, e1, ha1⟩ := ArgsH.cons' ha
    obtain ⟨y2, r2, h2, e2, ha2⟩ := ArgsH.cons' ha1
    have e3 := ArgsH.nil' ha2
    rw [e1, e2, e3]
    obtain ⟨d, hd⟩ := open_draft y1 h1
    obtain ⟨d', hd'⟩ := open_draft y2 h2
    rw [hd, hd']
    exact backLaw W (tab_of hL) (syn_of hL) [] d d' _ rfl
def wit : Array Value := #[.agg #[.int .u8 0, .int .u8 0, .slice none 0 0], .agg #[.int .u8 0, .int .u8 0, .slice none 0 0]]
set_option maxRecDepth 100000 in
theorem lifted (os : Os) (started : os.Started) (H : Type) (enc : TypeId × Value → H) :
    ReturnsInHanded {} Tryd.checked os 6 .any (fun w args => (Rows.recordBackSpec.pre enc Tryd.prog Tryd.f6 Rows.recordBackRow.domain false w args ∧ laidMetH Tryd.prog seatLaid w) ∧ sizedMet enc Tryd.prog Tryd.f6 (OpenSpec.ofChange Rows.recordBackSpec) false w args)
      (Rows.recordBackSpec.post enc Tryd.prog Tryd.f6 false true false false) := by
  refine returnsInHanded_of_change_and (C := Tryd.checked) (X := fun w _ => laidMetH Tryd.prog seatLaid w) (fun _ _ _ hh h => h.of_heap hh) own started (by kernel_rfl) Tryd.func6
    (ChangeSpec.witness_shaped (enc := enc) (C := Tryd.checked) (os := os) (X := fun w _ => laidMetH Tryd.prog seatLaid w) false (World.laidAll Tryd.prog os seatLaid) wit 8 (World.laidAll_os _ _ _)
      (World.shaped_of_ZipB (by kernel_rfl) (by kernel_rfl)) (by kernel_rfl) (by kernel_rfl) (by kernel_rfl)
      (by rw [MakeChecks.laidMetH_plain _ _ _ (by kernel_rfl)]; exact laidMet_laidAll _ (by kernel_rfl) (by kernel_rfl))) ?_
  intro W base args ds gs before hval hW _ _ hL _
  exact contract H enc W base args ds gs before hval hW hL
theorem said : Rows.RecordBackSaid :=
  OpenClaim.holds_of_wide 6 Tryd.f6 rfl rfl rfl rfl rfl rfl rfl ⟨rfl, rfl, rfl, rfl, rfl⟩ rfl rfl rfl rfl rfl (by kernel_rfl) Tryd.func6 (by kernel_rfl)
    (of_decide_eq_true (by kernel_rfl)) (by unfold Func.isWrapper; first | (rw [if_pos (by decide +kernel)]; kernel_rfl) | (rw [if_neg (by decide +kernel)]; exact ⟨rfl, rfl⟩))
    (fun os started H enc _ => lifted os started H enc)
theorem plainF (f : FuncId) (fn : Func) (hf : Tryd.pinned.checked.prog.funcNamed "fenestra/fenestralaw42.RecordBack" = some f) (hfn : Tryd.pinned.checked.prog.funcs[f]? = some fn) :
    true = Tryd.pinned.checked.prog.looks [] ∧ ∀ (j : Nat) t, fn.params[j]? = some t → Tryd.pinned.checked.prog.wantsStandIn t = false := by
  obtain rfl : f = 6 := Option.some.inj ((show Tryd.prog.funcNamed "fenestra/fenestralaw42.RecordBack" = some 6 by kernel_rfl).symm.trans hf) |>.symm
  obtain rfl : fn = Tryd.f6 := (Option.some.inj (Tryd.func6.symm.trans hfn)).symm
  refine ⟨by kernel_rfl, fun j t ht => ?_⟩
  rw [Tryd.params6] at ht
  have hm : t ∈ [27, 27] := by simpa using Array.mem_of_getElem? ht
  have hall : ([27, 27].all fun u => !Tryd.prog.wantsStandIn u) = true := by kernel_rfl
  exact (show Tryd.prog.wantsStandIn t = false by simpa using List.all_eq_true.1 hall t hm)
theorem card : Rows.RecordBackCardSaid :=
  Claim7.holds_tied_plain_at .later [] _ _ _ _ said (fun _ h => by cases h) (by kernel_rfl) (fun _ h => by cases h) recordBack_row_tie rfl ⟨rfl, rfl⟩ (by kernel_rfl) rfl plainF (by kernel_rfl)
end RecordBack
end Go.Proofs.YtnndmokndgnidaaDoor
