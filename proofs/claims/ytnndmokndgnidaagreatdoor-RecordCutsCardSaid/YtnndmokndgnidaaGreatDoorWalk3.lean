/- YtnndmokndgnidaaGreatDoorWalk3. Texts of the proof of a law about recordings: a layer of abstract values above the worlds, the types, the walks of the functions that the law reaches, the law and its card. Own work of an AI agent. -/
import Derived.Test.YtnndmokndgnidaaGreatDoorWalk2
import Derived.Shelf.Strconv.ToError
import Derived.Test.YtnndmokndgnidaaGreatDoorShelf
import Derived.Test.YtnndmokndgnidaaGreatDoorCore1
import Derived.Test.YtnndmokndgnidaaGreatDoorCards
import Derived.Test.YtnndmokndgnidaaGreatDoorTie
import Derived.ProofKit
import Derived.OpenShut
import Derived.LaidMore
import Derived.Lay
import Derived.SevenTiedAt
import Derived.Stop.Joined
import Derived.Shelf.Spec.SlicesGrow
import Derived.Test.YtnndmokndgnidaaGreatDoorWalk0
set_option linter.all false
set_option linter.unusedVariables false
set_option linter.unusedSimpArgs false
namespace Go.Proofs.YtnndmokndgnidaaGreatDoor
open Go Go.Fen
set_option linter.unusedSimpArgs false
set_option linter.unusedVariables false
attribute [local irreducible] RunX WP ACall AnyP OpA ProtL
set_option maxRecDepth 8000
def Syn (w0 : World) : Prop := ∃ ev, w0.cell? ⟨4, 0, none⟩ = some ev ∧ (ev = .nilIface ∨ ∃ te pe, ev = .iface te pe)
theorem toErr (w0 : World) (hS : Syn w0) (S : List Blk) (s : List UInt8) (hs : s.length ≤ 1000) (R : AOut → List Blk → Prop) (h : ∀ v : Value, R (.ret (.ifc 158 (.val v))) S) :
    ACall Tryz.prog w0 98 [.str [80, 97, 114, 115, 101, 85, 105, 110, 116], .str s, .int .i64 16, .int .i64 8, synV] S R := by
  refine ACall.libR (vs := [.string ⟨#[80, 97, 114, 115, 101, 85, 105, 110, 116]⟩, .string ⟨s.toArray⟩, .int .i64 16, .int .i64 8, .iface 155 (.int .i64 2)]) (Go.Proofs.enters_of Tryz.func98 (by kernel_rfl) rfl) rfl ?_
  intro w hb
  obtain ⟨ev, hv, hev⟩ := hS
  refine (Go.Proofs.Any.strconv_toError_syntax Go.Proofs.Tryz.laysC245 ⟨#[80, 97, 114, 115, 101, 85, 105, 110, 116]⟩ ⟨s.toArray⟩ 16 8 ev w ?_ ?_ hev).mono ?_
  · show s.toArray.size ≤ _
    simp; omega
  · exact (hb.cell (World.block_lt_of_cell? _ _ hv)).trans hv
  · rintro e w' ⟨N, rfl, hN, hc, hbw⟩
    exact ⟨_, rfl, hbw, .ifc 158 (.val (.pointer (some ⟨N, 0, none⟩))), fun ι ψ => .ifc _ _ _ (.val _ rfl), h _⟩
set_option maxHeartbeats 4000000 in
theorem parseUint (w0 : World) (hS : Syn w0) : PU16 w0 := by
  intro S b1 b2 R h1 h2
  have hte := fun S' => toErr w0 hS S' [b1, b2] (by simp)
  cases hh : hexV b1 b2 with
  | some v =>
    have hpu := fun S' (R : AOut → List Blk → Prop) (h : R (.ret (.tup [.int .u64 v, .inil])) S') => puIn w0 S' b1 b2 R (by rw [hh]; exact h)
    have h := h1 v hh
    clear hte h1 h2 hh
    refine enter Tryz.func87 rfl (by decide +kernel) (by rw [Tryz.ntmps87]; simp) (by rw [Tryz.ntmps87]; decide) (fun hO => ?_); rw [Tryz.ntmps87]
    repeat' first
      | apply x_seq | apply x_skip | apply x_block | apply x_exit | apply x_ret | apply x_ops_nil | apply p_blk | apply p_exit_it | apply p_exit_hit | apply p_ret_it | apply p_ret_blk | apply p_panic_it | apply p_panic_blk | apply p_end
      | (apply p_exit_miss; (focus rfl))
      | (apply x_region; simp only [List.toList_toArray])
      | (apply x_step0; (focus rfl); (focus (simp only [go_sem, *]; (try rfl); done)); (focus rfl); simp only [putA])
      | (apply x_callA []; (focus (simp only [go_sem, *]; (try rfl); done)); (focus rfl); (focus (simp only [go_sem, *]; (try rfl); done)); (focus rfl); (iterate 2 (focus (simp only [go_sem, *]; (try rfl); done))); (first | (apply hpu)); simp only [afterCall, putA])
      | (apply x_panic; (focus (simp only [go_sem, *]; (try rfl); done)); (focus rfl); (focus (simp only [go_sem, *]; (try rfl); done)))
      | (apply x_step; (iterate 2 (focus (simp only [go_sem, *]; (try rfl); done))); (focus rfl); simp only [putA])
      | (apply x_unwanted; (focus (simp only [go_sem, *]; (try rfl); done)); (focus rfl); simp only [putA])
      | (apply x_condT; (focus (simp only [go_sem, *]; (try rfl); done)))
      | (apply x_condF; (focus (simp only [go_sem, *]; (try rfl); done)))
      | (apply x_guardS; (focus rfl); (fail_if_success (focus (show _ = some true; (focus (simp only [go_sem, *]; (try rfl); done))))); (focus (simp only [go_sem, *]; (try rfl); done)); all_goals (intro hb; try simp only [Bool.not_eq_true', Bool.not_eq_false'] at hb))
      | (apply x_condS; (focus (simp only [go_sem, *]; (try rfl); done)); all_goals (intro hb; try simp only [Bool.not_eq_true', Bool.not_eq_false'] at hb))
    (apply f_ret; iterate 7 (focus (simp only [go_sem, *, Tryz.results87]; (try rfl); done)))
    exact h
  | none =>
    have hpu := fun S' (R : AOut → List Blk → Prop) (h : R (.ret (.tup [.int .u64 0, synV])) S') => puIn w0 S' b1 b2 R (by rw [hh]; exact h)
    have h := h2 hh
    clear h1 h2 hh
    unfold synV at hpu hte
    refine enter Tryz.func87 rfl (by decide +kernel) (by rw [Tryz.ntmps87]; simp) (by rw [Tryz.ntmps87]; decide) (fun hO => ?_); rw [Tryz.ntmps87]
    repeat' first
      | apply x_seq | apply x_skip | apply x_block | apply x_exit | apply x_ret | apply x_ops_nil | apply p_blk | apply p_exit_it | apply p_exit_hit | apply p_ret_it | apply p_ret_blk | apply p_panic_it | apply p_panic_blk | apply p_end
      | (apply p_exit_miss; (focus rfl))
      | (apply x_region; simp only [List.toList_toArray])
      | (apply x_step0; (focus rfl); (focus (simp only [go_sem, *]; (try rfl); done)); (focus rfl); simp only [putA])
      | (apply x_callA []; (focus (simp only [go_sem, *]; (try rfl); done)); (focus rfl); (focus (simp only [go_sem, *]; (try rfl); done)); (focus rfl); (iterate 2 (focus (simp only [go_sem, *]; (try rfl); done))); (first | (apply hpu) | (apply hte)); simp only [afterCall, putA])
      | (apply x_panic; (focus (simp only [go_sem, *]; (try rfl); done)); (focus rfl); (focus (simp only [go_sem, *]; (try rfl); done)))
      | (apply x_step; (iterate 2 (focus (simp only [go_sem, *]; (try rfl); done))); (focus rfl); simp only [putA])
      | (apply x_unwanted; (focus (simp only [go_sem, *]; (try rfl); done)); (focus rfl); simp only [putA])
      | (apply x_condT; (focus (simp only [go_sem, *]; (try rfl); done)))
      | (apply x_condF; (focus (simp only [go_sem, *]; (try rfl); done)))
      | (apply x_guardS; (focus rfl); (fail_if_success (focus (show _ = some true; (focus (simp only [go_sem, *]; (try rfl); done))))); (focus (simp only [go_sem, *]; (try rfl); done)); all_goals (intro hb; try simp only [Bool.not_eq_true', Bool.not_eq_false'] at hb))
      | (apply x_condS; (focus (simp only [go_sem, *]; (try rfl); done)); all_goals (intro hb; try simp only [Bool.not_eq_true', Bool.not_eq_false'] at hb))
    intro v
    repeat' first
      | apply x_seq | apply x_skip | apply x_block | apply x_exit | apply x_ret | apply x_ops_nil | apply p_blk | apply p_exit_it | apply p_exit_hit | apply p_ret_it | apply p_ret_blk | apply p_panic_it | apply p_panic_blk | apply p_end
      | (apply p_exit_miss; (focus rfl))
      | (apply x_region; simp only [List.toList_toArray])
      | (apply x_step0; (focus rfl); (focus (simp only [go_sem, *]; (try rfl); done)); (focus rfl); simp only [putA])
      | (apply x_panic; (focus (simp only [go_sem, *]; (try rfl); done)); (focus rfl); (focus (simp only [go_sem, *]; (try rfl); done)))
      | (apply x_step; (iterate 2 (focus (simp only [go_sem, *]; (try rfl); done))); (focus rfl); simp only [putA])
      | (apply x_unwanted; (focus (simp only [go_sem, *]; (try rfl); done)); (focus rfl); simp only [putA])
      | (apply x_condT; (focus (simp only [go_sem, *]; (try rfl); done)))
      | (apply x_condF; (focus (simp only [go_sem, *]; (try rfl); done)))
      | (apply x_guardS; (focus rfl); (fail_if_success (focus (show _ = some true; (focus (simp only [go_sem, *]; (try rfl); done))))); (focus (simp only [go_sem, *]; (try rfl); done)); all_goals (intro hb; try simp only [Bool.not_eq_true', Bool.not_eq_false'] at hb))
      | (apply x_condS; (focus (simp only [go_sem, *]; (try rfl); done)); all_goals (intro hb; try simp only [Bool.not_eq_true', Bool.not_eq_false'] at hb))
    (apply f_ret; iterate 7 (focus (simp only [go_sem, *, Tryz.results87]; (try rfl); done)))
    exact h _ _
end Go.Proofs.YtnndmokndgnidaaGreatDoor
namespace Go.Proofs.YtnndmokndgnidaaGreatDoor
open Go Go.Fen
set_option linter.unusedSimpArgs false
set_option linter.unusedVariables false
attribute [local irreducible] RunX WP ACall AnyP OpA ProtL
set_option maxRecDepth 8000
theorem chap_fastE : fasterS chapR 1 3 = (⟨10, 3, [⟨33, 1, 0, 0, [97, 10]⟩, ⟨17, 3, 20, 4, []⟩, ⟨0, 4, 0, 0, [109]⟩]⟩, 0) := by decide +kernel
theorem chap_idleE : idleS chapR 60 = (⟨10, 3, [⟨60, 1, 0, 0, [97, 10]⟩, ⟨50, 3, 20, 4, []⟩, ⟨0, 4, 0, 0, [109]⟩]⟩, 0) := by decide +kernel
set_option maxHeartbeats 1000000 in
theorem waitsE (w0 : World) (S : List Blk) (r : Rec) (hm : (r.items.length : Int) < 9223372036854775807) (R : AOut → List Blk → Prop) (h : R (.ret (.bool (r.items.map It.wait == []))) S) :
    ACall Tryz.prog w0 47 [r.av, .sval false []] S R := by
  unfold Rec.av
  cases hi : r.items with
  | nil =>
    rw [hi] at h
    clear hm
    refine enter Tryz.func47 rfl (by decide +kernel) (by rw [Tryz.ntmps47]; simp) (by rw [Tryz.ntmps47]; decide) (fun hO => ?_); rw [Tryz.ntmps47]
    repeat' first
      | apply x_seq | apply x_skip | apply x_block | apply x_exit | apply x_ret | apply x_ops_nil | apply p_blk | apply p_exit_it | apply p_exit_hit | apply p_ret_it | apply p_ret_blk | apply p_panic_it | apply p_panic_blk | apply p_end
      | (apply p_exit_miss; (focus rfl))
      | (apply x_region; simp only [List.toList_toArray])
      | (apply x_step0; (focus rfl); (focus (simp only [go_sem, *]; (try rfl); done)); (focus rfl); simp only [putA])
      | (apply x_panic; (focus (simp only [go_sem, *]; (try rfl); done)); (focus rfl); (focus (simp only [go_sem, *]; (try rfl); done)))
      | (apply x_step; (iterate 2 (focus (simp only [go_sem, *]; (try rfl); done))); (focus rfl); simp only [putA])
      | (apply x_unwanted; (focus (simp only [go_sem, *]; (try rfl); done)); (focus rfl); simp only [putA])
      | (apply x_condT; (focus (simp only [go_sem, *]; (try rfl); done)))
      | (apply x_condF; (focus (simp only [go_sem, *]; (try rfl); done)))
      | (apply x_guardS; (focus rfl); (fail_if_success (focus (show _ = some true; (focus (simp only [go_sem, *]; (try rfl); done))))); (focus (simp only [go_sem, *]; (try rfl); done)); all_goals (intro hb; try simp only [Bool.not_eq_true', Bool.not_eq_false'] at hb))
      | (apply x_condS; (focus (simp only [go_sem, *]; (try rfl); done)); all_goals (intro hb; try simp only [Bool.not_eq_true', Bool.not_eq_false'] at hb))
    refine x_ind (fun (_ : Unit) env S' => env 1000000 = .dfr [] ∧ env 1 = .sval false [] ∧ env 5 = .int .i64 0 ∧ S' = S ++ [Blk.cells [AV.int .i64 r.cols, AV.int .i64 r.rows, AV.sval false (List.map It.av [])]]) (fun _ => 0) () ?_ ?_
    · exact ⟨by (simp only [go_sem, *]; try rfl), by (simp only [go_sem, *]; try rfl), by (simp only [go_sem, *]; try rfl), rfl⟩
    · rintro u env S' ⟨e0, e1, e5, rfl⟩ IH
      clear IH
      repeat' first
        | apply x_seq | apply x_skip | apply x_block | apply x_exit | apply x_ret | apply x_ops_nil | apply p_blk | apply p_exit_it | apply p_exit_hit | apply p_ret_it | apply p_ret_blk | apply p_panic_it | apply p_panic_blk | apply p_end
        | (apply p_exit_miss; (focus rfl))
        | (apply x_region; simp only [List.toList_toArray])
        | (apply x_step0; (focus rfl); (focus (simp only [go_sem, *]; (try rfl); done)); (focus rfl); simp only [putA])
        | (apply x_panic; (focus (simp only [go_sem, *]; (try rfl); done)); (focus rfl); (focus (simp only [go_sem, *]; (try rfl); done)))
        | (apply x_step; (iterate 2 (focus (simp only [go_sem, *]; (try rfl); done))); (focus rfl); simp only [putA])
        | (apply x_unwanted; (focus (simp only [go_sem, *]; (try rfl); done)); (focus rfl); simp only [putA])
        | (apply x_condT; (focus (simp only [go_sem, *]; (try rfl); done)))
        | (apply x_condF; (focus (simp only [go_sem, *]; (try rfl); done)))
        | (apply x_guardS; (focus rfl); (fail_if_success (focus (show _ = some true; (focus (simp only [go_sem, *]; (try rfl); done))))); (focus (simp only [go_sem, *]; (try rfl); done)); all_goals (intro hb; try simp only [Bool.not_eq_true', Bool.not_eq_false'] at hb))
        | (apply x_condS; (focus (simp only [go_sem, *]; (try rfl); done)); all_goals (intro hb; try simp only [Bool.not_eq_true', Bool.not_eq_false'] at hb))
      (apply f_ret; iterate 7 (focus (simp only [go_sem, *, Tryz.results47]; (try rfl); done)))
      exact h
  | cons x l =>
    rw [hi] at h hm
    have d1 : (((x :: l).length : Int) == 0) = false := by simp; omega
    have d2 : (((x :: l).length : Int) != 0) = true := by simp; omega
    refine enter Tryz.func47 rfl (by decide +kernel) (by rw [Tryz.ntmps47]; simp) (by rw [Tryz.ntmps47]; decide) (fun hO => ?_); rw [Tryz.ntmps47]
    repeat' first
      | apply x_seq | apply x_skip | apply x_block | apply x_exit | apply x_ret | apply x_ops_nil | apply p_blk | apply p_exit_it | apply p_exit_hit | apply p_ret_it | apply p_ret_blk | apply p_panic_it | apply p_panic_blk | apply p_end
      | (apply p_exit_miss; (focus rfl))
      | (apply x_region; simp only [List.toList_toArray])
      | (apply x_step0; (focus rfl); (focus (simp only [go_sem, *]; (try rfl); done)); (focus rfl); simp only [putA])
      | (apply x_panic; (focus (simp only [go_sem, *]; (try rfl); done)); (focus rfl); (focus (simp only [go_sem, *]; (try rfl); done)))
      | (apply x_step; (iterate 2 (focus (simp only [go_sem, *]; (try rfl); done))); (focus rfl); simp only [putA])
      | (apply x_unwanted; (focus (simp only [go_sem, *]; (try rfl); done)); (focus rfl); simp only [putA])
      | (apply x_condT; (focus (simp only [go_sem, *]; (try rfl); done)))
      | (apply x_condF; (focus (simp only [go_sem, *]; (try rfl); done)))
      | (apply x_guardS; (focus rfl); (fail_if_success (focus (show _ = some true; (focus (simp only [go_sem, *]; (try rfl); done))))); (focus (simp only [go_sem, *]; (try rfl); done)); all_goals (intro hb; try simp only [Bool.not_eq_true', Bool.not_eq_false'] at hb))
      | (apply x_condS; (focus (simp only [go_sem, *]; (try rfl); done)); all_goals (intro hb; try simp only [Bool.not_eq_true', Bool.not_eq_false'] at hb))
    (apply f_ret; iterate 7 (focus (simp only [go_sem, *, Tryz.results47]; (try rfl); done)))
    exact h
set_option maxHeartbeats 16000000 in
theorem works (w0 : World) (hT : Tab w0) (hPU : PU16 w0) (S : List Blk) (R : AOut → List Blk → Prop) (h : R (.ret (.bool true)) S) : ACall Tryz.prog w0 19 [] S R := by
  have hm : (chapR.items.length : Int) < 9223372036854775807 := by decide +kernel
  obtain ⟨ci, hci⟩ : ∃ ci : List It, chapR = ⟨10, 3, ci⟩ := ⟨_, rfl⟩
  obtain ⟨i1, hi1⟩ : ∃ l : List It, l = [⟨30, 3, 20, 4, []⟩, ⟨0, 4, 0, 0, [109]⟩] := ⟨_, rfl⟩
  obtain ⟨i3, hi3⟩ : ∃ l : List It, l = [⟨100, 1, 0, 0, [97, 10]⟩] := ⟨_, rfl⟩
  obtain ⟨i4, hi4⟩ : ∃ l : List It, l = [⟨33, 1, 0, 0, [97, 10]⟩, ⟨17, 3, 20, 4, []⟩, ⟨0, 4, 0, 0, [109]⟩] := ⟨_, rfl⟩
  obtain ⟨i5, hi5⟩ : ∃ l : List It, l = [⟨60, 1, 0, 0, [97, 10]⟩, ⟨50, 3, 20, 4, []⟩, ⟨0, 4, 0, 0, [109]⟩] := ⟨_, rfl⟩
  have t1 : ∀ S' (R : AOut → List Blk → Prop), R (.ret (.tup [(Rec.mk 10 3 ci).av, .str chapS])) S' → ACall Tryz.prog w0 46 [] S' R := fun S' R h => chapter w0 S' R (by rw [hci]; exact h)
  have t2 : ∀ S' (R : AOut → List Blk → Prop), R (.ret (.tup [.str chapS, .int .i64 0])) S' → ACall Tryz.prog w0 9 [(Rec.mk 10 3 ci).av] S' R := fun S' R h => by rw [← hci]; exact print w0 hT S' chapR hm R (by rw [chap_check, chap_print]; exact h)
  have t3 : ∀ S' (R : AOut → List Blk → Prop), R (.ret (.tup [(Rec.mk 10 3 ci).av, .int .i64 0])) S' → ACall Tryz.prog w0 27 [.str chapS] S' R := fun S' R h => parse w0 hPU S' chapS (by
    intro r hr
    have := chap_parse
    unfold parseS at this
    rw [if_neg (by decide), hr] at this
    by_cases hc : checkB r = true
    · simp only [hc, if_true, Prod.mk.injEq] at this
      rw [this.1]; exact hm
    · exfalso
      simp only [hc] at this
      cases this) R (by rw [chap_parse, hci]; exact h)
  have t4 : ∀ S' (R : AOut → List Blk → Prop), R (.ret (.tup [.int .i64 150, .int .i64 0])) S' → ACall Tryz.prog w0 11 [(Rec.mk 10 3 ci).av] S' R := fun S' R h => by rw [← hci]; exact long w0 S' chapR hm R (by rw [chap_check, chap_long]; exact h)
  have t5 : ∀ S' (R : AOut → List Blk → Prop), R (.ret (.tup [(Rec.mk 10 3 i1).av, .int .i64 0])) S' → ACall Tryz.prog w0 20 [(Rec.mk 10 3 ci).av, .int .i64 120, .int .i64 200] S' R := fun S' R h => by rw [← hci]; exact cut w0 S' chapR hm 120 200 R (by rw [chap_cut1, ← hi1]; exact h)
  have t6 : ∀ S' (R : AOut → List Blk → Prop), R (.ret (.tup [.agg [.int .i64 20, .int .i64 4, .sval false []], .int .i64 0])) S' → ACall Tryz.prog w0 20 [(Rec.mk 10 3 ci).av, .int .i64 200, .int .i64 300] S' R := fun S' R h => by rw [← hci]; exact cut w0 S' chapR hm 200 300 R (by rw [chap_cut2]; exact h)
  have t7 : ∀ S' (R : AOut → List Blk → Prop), R (.ret (.tup [(Rec.mk 10 3 i3).av, .int .i64 0])) S' → ACall Tryz.prog w0 20 [(Rec.mk 10 3 ci).av, .int .i64 0, .int .i64 150] S' R := fun S' R h => by rw [← hci]; exact cut w0 S' chapR hm 0 150 R (by rw [chap_cut3, ← hi3]; exact h)
  have t8 : ∀ S' (R : AOut → List Blk → Prop), R (.ret (.tup [(Rec.mk 10 3 i4).av, .int .i64 0])) S' → ACall Tryz.prog w0 28 [(Rec.mk 10 3 ci).av, .int .i64 1, .int .i64 3] S' R := fun S' R h => by rw [← hci]; exact faster w0 S' chapR hm 1 3 R (by rw [chap_fastE, ← hi4]; exact h)
  have t9 : ∀ S' (R : AOut → List Blk → Prop), R (.ret (.tup [(Rec.mk 10 3 i5).av, .int .i64 0])) S' → ACall Tryz.prog w0 29 [(Rec.mk 10 3 ci).av, .int .i64 60] S' R := fun S' R h => by rw [← hci]; exact idle w0 S' chapR hm 60 R (by rw [chap_idleE, ← hi5]; exact h)
  have u1 : ∀ S' b g fz, S'[b]? = some (Blk.arr 3 1 fz g [.int .i64 30, .int .i64 0]) → ∀ R : AOut → List Blk → Prop, R (.ret (.bool true)) S' → ACall Tryz.prog w0 47 [(Rec.mk 10 3 i1).av, .sown b g 2] S' R := fun S' b g fz hb R h => waits w0 S' ⟨10, 3, i1⟩ [30, 0] b g fz (by rw [hi1]; decide) hb R (by rw [hi1]; exact h)
  have u2 : ∀ S' (R : AOut → List Blk → Prop), R (.ret (.bool true)) S' → ACall Tryz.prog w0 47 [.agg [.int .i64 20, .int .i64 4, .sval false []], .sval false []] S' R := fun S' R h => waitsE w0 S' ⟨20, 4, []⟩ (by decide) R h
  have u3 : ∀ S' b g fz, S'[b]? = some (Blk.arr 3 1 fz g [.int .i64 100]) → ∀ R : AOut → List Blk → Prop, R (.ret (.bool true)) S' → ACall Tryz.prog w0 47 [(Rec.mk 10 3 i3).av, .sown b g 1] S' R := fun S' b g fz hb R h => waits w0 S' ⟨10, 3, i3⟩ [100] b g fz (by rw [hi3]; decide) hb R (by rw [hi3]; exact h)
  have u4 : ∀ S' b g fz, S'[b]? = some (Blk.arr 3 1 fz g [.int .i64 33, .int .i64 17, .int .i64 0]) → ∀ R : AOut → List Blk → Prop, R (.ret (.bool true)) S' → ACall Tryz.prog w0 47 [(Rec.mk 10 3 i4).av, .sown b g 3] S' R := fun S' b g fz hb R h => waits w0 S' ⟨10, 3, i4⟩ [33, 17, 0] b g fz (by rw [hi4]; decide) hb R (by rw [hi4]; exact h)
  have u5 : ∀ S' b g fz, S'[b]? = some (Blk.arr 3 1 fz g [.int .i64 60, .int .i64 50, .int .i64 0]) → ∀ R : AOut → List Blk → Prop, R (.ret (.bool true)) S' → ACall Tryz.prog w0 47 [(Rec.mk 10 3 i5).av, .sown b g 3] S' R := fun S' b g fz hb R h => waits w0 S' ⟨10, 3, i5⟩ [60, 50, 0] b g fz (by rw [hi5]; decide) hb R (by rw [hi5]; exact h)
  have v1 : ∀ S' (R : AOut → List Blk → Prop), R (.ret (.bool true)) S' → ACall Tryz.prog w0 16 [(Rec.mk 10 3 ci).av, (Rec.mk 10 3 ci).av] S' R := fun S' R h => refSame w0 S' ⟨10, 3, ci⟩ ⟨10, 3, ci⟩ (by rw [hci] at hm; exact hm) R (by rw [show sameB (Rec.mk 10 3 ci) ⟨10, 3, ci⟩ = true by simp [sameB]]; exact h)
  have v2 : ∀ S' (R : AOut → List Blk → Prop), R (.ret (.bool true)) S' → ACall Tryz.prog w0 48 [(Rec.mk 10 3 ci).av, .int .i64 100, .int .i64 1] S' R := fun S' R h => by rw [← hci]; exact uptoLaw w0 S' chapR hm 100 1 1 chap_check chap_up1 R h
  have v3 : ∀ S' (R : AOut → List Blk → Prop), R (.ret (.bool true)) S' → ACall Tryz.prog w0 48 [(Rec.mk 10 3 ci).av, .int .i64 149, .int .i64 1] S' R := fun S' R h => by rw [← hci]; exact uptoLaw w0 S' chapR hm 149 1 1 chap_check chap_up2 R h
  have v4 : ∀ S' (R : AOut → List Blk → Prop), R (.ret (.bool true)) S' → ACall Tryz.prog w0 48 [(Rec.mk 10 3 ci).av, .int .i64 150, .int .i64 3] S' R := fun S' R h => by rw [← hci]; exact uptoLaw w0 S' chapR hm 150 3 3 chap_check chap_up3 R h
  have v5 : ∀ S' (R : AOut → List Blk → Prop), R (.ret (.bool true)) S' → ACall Tryz.prog w0 48 [(Rec.mk 10 3 ci).av, .int .i64 (-1), .int .i64 0] S' R := fun S' R h => by rw [← hci]; exact uptoLaw w0 S' chapR hm (-1) 0 0 chap_check chap_up4 R h
  obtain ⟨cs, hcs⟩ : ∃ cs, cs = chapS := ⟨_, rfl⟩
  rw [← hcs] at t1 t2 t3
  unfold Rec.av at t1 t2 t3 t4 t5 t6 t7 t8 t9 u1 u3 u4 u5 v1 v2 v3 v4 v5
  clear hm hci hi1 hi3 hi4 hi5 hT hPU hcs
  replace t1 := Lib.hid t1
  replace t2 := Lib.hid t2
  replace t3 := Lib.hid t3
  replace t4 := Lib.hid t4
  replace t5 := Lib.hid t5
  replace t6 := Lib.hid t6
  replace t7 := Lib.hid t7
  replace t8 := Lib.hid t8
  replace t9 := Lib.hid t9
  replace u1 := Lib.hid u1
  replace u2 := Lib.hid u2
  replace u3 := Lib.hid u3
  replace u4 := Lib.hid u4
  replace u5 := Lib.hid u5
  replace v1 := Lib.hid v1
  replace v2 := Lib.hid v2
  replace v3 := Lib.hid v3
  replace v4 := Lib.hid v4
  replace v5 := Lib.hid v5
  refine enter Tryz.func19 rfl (by decide +kernel) (by rw [Tryz.ntmps19]; simp) (by rw [Tryz.ntmps19]; decide) (fun hO => ?_); rw [Tryz.ntmps19]
  repeat' first
    | apply x_seq | apply x_skip | apply x_block | apply x_exit | apply x_ret | apply x_ops_nil | apply p_blk | apply p_exit_it | apply p_exit_hit | apply p_ret_it | apply p_ret_blk | apply p_panic_it | apply p_panic_blk | apply p_end
    | (apply p_exit_miss; (focus rfl))
    | (apply x_region; simp only [List.toList_toArray])
    | (apply x_step0; (focus rfl); (focus (simp only [go_sem, *]; (try rfl); done)); (focus rfl); simp only [putA])
    | (apply x_callA []; (focus (simp only [go_sem, *]; (try rfl); done)); (focus rfl); (focus (simp only [go_sem, *]; (try rfl); done)); (focus rfl); (iterate 2 (focus (simp only [go_sem, *]; (try rfl); done))); (first | (apply t1.out) | (apply t2.out) | (apply t3.out) | (apply t4.out) | (apply t5.out) | (apply t6.out) | (apply t7.out) | (apply t8.out) | (apply t9.out) | (apply u1.out; (focus (simp only [go_sem, *]; (try rfl); done))) | (apply u2.out) | (apply u3.out; (focus (simp only [go_sem, *]; (try rfl); done))) | (apply u4.out; (focus (simp only [go_sem, *]; (try rfl); done))) | (apply u5.out; (focus (simp only [go_sem, *]; (try rfl); done))) | (apply v1.out) | (apply v2.out) | (apply v3.out) | (apply v4.out) | (apply v5.out)); simp only [afterCall, putA])
    | (apply x_panic; (focus (simp only [go_sem, *]; (try rfl); done)); (focus rfl); (focus (simp only [go_sem, *]; (try rfl); done)))
    | (apply x_step; (iterate 2 (focus (simp only [go_sem, *]; (try rfl); done))); (focus rfl); simp only [putA])
    | (apply x_unwanted; (focus (simp only [go_sem, *]; (try rfl); done)); (focus rfl); simp only [putA])
    | (apply x_condT; (focus (simp only [go_sem, *]; (try rfl); done)))
    | (apply x_condF; (focus (simp only [go_sem, *]; (try rfl); done)))
    | (apply x_guardS; (focus rfl); (fail_if_success (focus (show _ = some true; (focus (simp only [go_sem, *]; (try rfl); done))))); (focus (simp only [go_sem, *]; (try rfl); done)); all_goals (intro hb; try simp only [Bool.not_eq_true', Bool.not_eq_false'] at hb))
    | (apply x_condS; (focus (simp only [go_sem, *]; (try rfl); done)); all_goals (intro hb; try simp only [Bool.not_eq_true', Bool.not_eq_false'] at hb))
  all_goals (apply f_ret; iterate 7 (focus (simp only [go_sem, *, Tryz.results19]; (try rfl); done)))
  all_goals exact h
end Go.Proofs.YtnndmokndgnidaaGreatDoor
namespace Go.Proofs.YtnndmokndgnidaaGreatDoor
open Go Go.Fen
set_option linter.unusedSimpArgs false
set_option linter.unusedVariables false
attribute [local irreducible] RunX WP ACall AnyP OpA ProtL
set_option maxRecDepth 8000
open Go.ChangeShapes Go.WideShapes Go.ChangeAt Go.RowKit
theorem own : ownKnob Tryz.prog.godebug = none := by kernel_rfl
theorem laid_mem {P : Program} {W : World} {nm : String} {d : DataW Unit} : ∀ {l : List (String × DataW Unit)} {ps : List MemPlace}, DataW.LaidVars P W l ps → (nm, d) ∈ l →
    ∃ g t cs fuel p, P.globalNamed nm = some g ∧ (P.globals[g]?).map (·.type) = some t ∧ W.var? P nm = some cs ∧ DataW.trod (fun _ => ()) P W 0 (fun _ => true) false fuel t cs.toList = some (d, p) := by
  intro l
  induction l with
  | nil => intro ps _ h; cases h
  | cons x l ih =>
    intro ps h hm
    obtain ⟨nm', d'⟩ := x
    obtain ⟨g, t, cs, fuel, p, q, h1, h2, h3, h4, h5, _⟩ := h
    rcases List.mem_cons.1 hm with e | hm
    · cases e; exact ⟨g, t, cs, fuel, p, h1, h2, h3, h4⟩
    · exact ih h5 hm
def seatLaid : List (String × DataW Unit) := [("math/bits.deBruijn32tab", Rows.laid_math_bits_deBruijn32tab), ("math/bits.deBruijn64tab", Rows.laid_math_bits_deBruijn64tab), ("internal/strconv.uint64pow10", Rows.laid_internal_strconv_uint64pow10), ("unicode/utf8.acceptRanges", Rows.laid_unicode_utf8_acceptRanges), ("strconv.ErrRange", Rows.laid_strconv_ErrRange), ("strconv.ErrSyntax", Rows.laid_strconv_ErrSyntax), ("unicode/utf8.first", Rows.laid_unicode_utf8_first)]
theorem gPow : Tryz.prog.globalNamed "internal/strconv.uint64pow10" = some 1 := by kernel_rfl
theorem gSyn : Tryz.prog.globalNamed "strconv.ErrSyntax" = some 4 := by kernel_rfl
theorem tab_of {W : World} (h : laidMetH Tryz.prog seatLaid W) : Tab W := by
  rw [MakeChecks.laidMetH_plain _ _ _ (by kernel_rfl)] at h
  obtain ⟨ps, hl, _⟩ := h
  obtain ⟨g, t, cs, fuel, p, h1, h2, h3, h4⟩ := laid_mem (nm := "internal/strconv.uint64pow10") (d := Rows.laid_internal_strconv_uint64pow10) hl (by simp [seatLaid])
  obtain rfl := Option.some.inj (gPow.symm.trans h1)
  obtain rfl := Option.some.inj ((show (Tryz.prog.globals[1]?).map (·.type) = some 138 by kernel_rfl).symm.trans h2)
  have h5 := Lib.cells_of_tab (k := .u64) (zs := Lib.pow10Tab) (un_138) (un_112) (by kernel_rfl) (by kernel_rfl) h4
  unfold Tab Lib.TabIs
  rw [h3, ← h5]
theorem syn_of {W : World} (h : laidMetH Tryz.prog seatLaid W) : Syn W := by
  rw [MakeChecks.laidMetH_plain _ _ _ (by kernel_rfl)] at h
  obtain ⟨ps, hl, _⟩ := h
  obtain ⟨g, t, cs, fuel, p, h1, h2, h3, h4⟩ := laid_mem (nm := "strconv.ErrSyntax") (d := Rows.laid_strconv_ErrSyntax) hl (by simp [seatLaid])
  obtain rfl := Option.some.inj (gSyn.symm.trans h1)
  obtain rfl := Option.some.inj ((show (Tryz.prog.globals[4]?).map (·.type) = some 73 by kernel_rfl).symm.trans h2)
  cases fuel with
  | zero => simp [DataW.trod] at h4
  | succ fuel =>
  simp only [DataW.trod, un_73] at h4
  have hc := World.var?_cell gSyn h3 0
  match hcs : cs.toList, h4 with
  | [.nilIface], _ => exact ⟨.nilIface, by rw [hc, ← Array.getElem?_toList, hcs]; rfl, .inl rfl⟩
  | [.iface u v], _ => exact ⟨.iface u v, by rw [hc, ← Array.getElem?_toList, hcs]; rfl, .inr ⟨u, v, rfl⟩⟩
def itSk : Sk := .cons (.int .i64) (.cons (.int .i64) (.cons (.int .i64) (.cons (.int .i64) (.cons .str .nil))))
def recSk : Sk := .cons (.int .i64) (.cons (.int .i64) (.cons (.sl itSk) .nil))
def ditSk : Sk := .cons (.int .u32) (.cons (.int .u8) (.cons (.int .u8) (.cons (.int .u8) (.cons .str .nil))))
def draftSk : Sk := .cons (.int .u8) (.cons (.int .u8) (.cons (.sl ditSk) .nil))
theorem els_map {α : Type} {s : Sk} {av : α → AV} (h : ∀ y, s.has y → ∃ x, s.mk y = av x) : ∀ els : List (List AV), (∀ y ∈ els, s.has y) → ∃ l : List α, els.map s.mk = l.map av ∧ l.length = els.length := by
  intro els
  induction els with
  | nil => intro _; exact ⟨[], rfl, rfl⟩
  | cons y els ih =>
    intro hh
    obtain ⟨x, hx⟩ := h y (hh y (List.mem_cons_self ..))
    obtain ⟨l, hl, hl2⟩ := ih fun z hz => hh z (List.mem_cons_of_mem _ hz)
    exact ⟨x :: l, by simp [hx, hl], by simp [hl2]⟩
theorem wf_nat {k : IntKind} {n : Int} (h : (Lit.int k n).wf = true) (hk : k.min = 0) : ((n.toNat : Nat) : Int) = n := by
  simp only [Lit.wf, Bool.and_eq_true, decide_eq_true_eq, hk] at h
  omega
theorem open_it (y : List AV) (h : itSk.has y) : ∃ x : It, itSk.mk y = x.av := by
  obtain ⟨_, _, rfl, ⟨a, rfl, _⟩, _, _, rfl, ⟨b, rfl, _⟩, _, _, rfl, ⟨c, rfl, _⟩, _, _, rfl, ⟨d, rfl, _⟩, _, _, rfl, ⟨s, rfl, _⟩, rfl⟩ := h
  exact ⟨⟨a, b, c, d, s⟩, rfl⟩
theorem open_rec (y : List AV) (h : recSk.has y) : ∃ x : Rec, recSk.mk y = x.av := by
  obtain ⟨_, _, rfl, ⟨a, rfl, _⟩, _, _, rfl, ⟨b, rfl, _⟩, _, _, rfl, ⟨els, rfl, _, he⟩, rfl⟩ := h
  obtain ⟨l, hl, _⟩ := els_map open_it els he
  exact ⟨⟨a, b, l⟩, by simp [Sk.mk, recSk, Sk.isAgg, Rec.av, hl]⟩
theorem open_dit (y : List AV) (h : ditSk.has y) : ∃ x : DIt, ditSk.mk y = x.av := by
  obtain ⟨_, _, rfl, ⟨a, rfl, ha⟩, _, _, rfl, ⟨b, rfl, hb⟩, _, _, rfl, ⟨c, rfl, hc⟩, _, _, rfl, ⟨d, rfl, hd⟩, _, _, rfl, ⟨s, rfl, _⟩, rfl⟩ := h
  exact ⟨⟨a.toNat, b.toNat, c.toNat, d.toNat, s⟩, by simp [Sk.mk, ditSk, Sk.isAgg, DIt.av, wf_nat ha rfl, wf_nat hb rfl, wf_nat hc rfl, wf_nat hd rfl]⟩
theorem open_draft (y : List AV) (h : draftSk.has y) : ∃ x : Dr, draftSk.mk y = x.av := by
  obtain ⟨_, _, rfl, ⟨a, rfl, ha⟩, _, _, rfl, ⟨b, rfl, hb⟩, _, _, rfl, ⟨els, rfl, _, he⟩, rfl⟩ := h
  obtain ⟨l, hl, _⟩ := els_map open_dit els he
  exact ⟨⟨a.toNat, b.toNat, l⟩, by simp [Sk.mk, draftSk, Sk.isAgg, Dr.av, hl, wf_nat ha rfl, wf_nat hb rfl]⟩
theorem laidOut : laidOutB Tryz.prog = true := by kernel_rfl
end Go.Proofs.YtnndmokndgnidaaGreatDoor
namespace Go.Proofs.YtnndmokndgnidaaGreatDoor
open Go Go.Fen
set_option linter.unusedSimpArgs false
set_option linter.unusedVariables false
attribute [local irreducible] RunX WP ACall AnyP OpA ProtL
set_option maxRecDepth 8000
theorem dit_check (y : DIt) : itemB y.item = true := by
  unfold DIt.item
  split
  · simp [itemB, sizeB]; omega
  · next h =>
    have h4 : y.kind % 4 = 0 ∨ y.kind % 4 = 1 ∨ y.kind % 4 = 3 := by omega
    have hl : (y.text.take 200).length ≤ 200 := by simp; omega
    have hw1 : (0 : Int) ≤ (y.wait : Int) % 1000001 := by omega
    have hw2 : (y.wait : Int) % 1000001 ≤ 1000000 := by omega
    have hk : 1 + (y.kind : Int) % 4 = 1 ∨ 1 + (y.kind : Int) % 4 = 2 ∨ 1 + (y.kind : Int) % 4 = 4 := by omega
    unfold itemB
    simp only [hw1, hw2, decide_true, Bool.true_and, beq_self_eq_true, Bool.and_true]
    rcases hk with hk | hk | hk <;> rw [hk]
    · simp only [beq_self_eq_true, Bool.true_or, if_true, decide_eq_true_eq]; omega
    · simp only [beq_self_eq_true, Bool.or_true, if_true, decide_eq_true_eq]; omega
    · rw [if_neg (by decide), if_pos (by decide)]
      simp only [decide_eq_true_eq]; omega
theorem rcd_check (d : Dr) : checkB d.rcd = true := by
  unfold checkB
  simp only [Bool.and_eq_true, decide_eq_true_eq, List.all_eq_true]
  refine ⟨⟨?_, ?_⟩, ?_⟩
  · simp [sizeB, Dr.rcd]; omega
  · simp [Dr.rcd]; omega
  · intro x hx
    obtain ⟨y, _, rfl⟩ := List.mem_map.1 (show x ∈ (d.items.take 30).map DIt.item from hx)
    exact dit_check y
theorem setW_get {l : List It} {f : Nat → Int} {k : Nat} {x : It} (h : l[k]? = some x) : (setW l f)[k]? = some { x with wait := f k } := by simp [setW, h]
theorem setW_self {l : List It} {f : Nat → Int} (h : ∀ k x, l[k]? = some x → f k = x.wait) : setW l f = l := by
  apply List.ext_getElem?
  intro k
  cases hx : l[k]? with
  | none => simp [setW, hx]
  | some x => rw [setW_get hx, h k x hx]
theorem fasterS_same {r : Rec} (hc : checkB r = true) {m : Int} (h1 : 1 ≤ m) (h2 : m ≤ 1000) : fasterS r m m = (r, 0) := by
  have hl : ∀ k, lastF r m m k = tmz r.items k := fun k => Int.mul_ediv_cancel _ (by omega)
  have hs : setW r.items (fun k => lastF r m m (k + 1) - lastF r m m k) = r.items := setW_self fun k x hx => by
    simp only [hl, tmz_succ hx]; omega
  unfold fasterS
  rw [if_pos hc, hs]
  have hw : (wB m 0 1000 && wB m 1 1000) = true := by simp [wB]; omega
  rw [if_pos hw]
  exact if_pos hc
theorem fast_step {r : Rec} (hc : checkB r = true) {a m : Int} (h0 : 0 ≤ a) (ha : a ≤ m) (h1 : 1 ≤ m) {k : Nat} {x : It} (hx : r.items[k]? = some x) :
    0 ≤ lastF r a m (k + 1) - lastF r a m k ∧ lastF r a m (k + 1) - lastF r a m k ≤ x.wait := by
  have hw := waits_of hc
  have hm := lastF_mono hw h0 h1 (List.getElem?_eq_some_iff.1 hx).1
  have hxw := hw.2 x (List.mem_of_getElem? hx)
  refine ⟨by omega, ?_⟩
  unfold lastF
  rw [tmz_succ hx]
  have e : (tmz r.items k + x.wait) * a ≤ tmz r.items k * a + x.wait * m := by
    rw [Int.add_mul]
    have := Int.mul_le_mul_of_nonneg_left ha hxw.1
    omega
  have h3 := Int.ediv_le_ediv (show 0 < m by omega) e
  rw [Int.add_mul_ediv_right _ _ (by omega)] at h3
  omega
theorem tmz_setW {l : List It} {f : Nat → Int} {g : Nat → Int} (h0 : g 0 = 0) (h : ∀ k, k < l.length → f k = g (k + 1) - g k) : ∀ k, k ≤ l.length → tmz (setW l f) k = g k := by
  intro k
  induction k with
  | zero => intro _; rw [h0]; rfl
  | succ k ih =>
    intro hk
    obtain ⟨x, hx⟩ : ∃ x, l[k]? = some x := ⟨_, List.getElem?_eq_getElem (by omega)⟩
    rw [tmz_succ (setW_get hx), ih (by omega)]
    have := h k (by omega)
    simp only
    omega
theorem fasterS_min {r : Rec} (hc : checkB r = true) {a m : Int} (h0 : 0 ≤ a) (ha : a ≤ m) (h1 : 1 ≤ m) (h2 : m ≤ 1000) : ∃ f : Nat → Int, fasterS r a m = (⟨r.cols, r.rows, setW r.items f⟩, 0) ∧ checkB ⟨r.cols, r.rows, setW r.items f⟩ = true ∧
    tmz (setW r.items f) (setW r.items f).length = tmz r.items r.items.length * a / m := by
  have hw := waits_of hc
  refine ⟨fun k => lastF r a m (k + 1) - lastF r a m k, ?_, ?_, ?_⟩
  · unfold fasterS
    have hB : (wB a 0 1000 && wB m 1 1000) = true := by simp [wB]; omega
    rw [if_pos hc, if_pos hB, if_pos]
    rw [checkOut hc (fun k hk => (fast_step hc h0 ha h1 (List.getElem?_eq_getElem hk)).1)]
    simp only [decide_eq_true_eq]
    intro k hk
    have := (fast_step hc h0 ha h1 (List.getElem?_eq_getElem hk)).2
    have := (hw.2 _ (List.getElem_mem hk)).2
    omega
  · have := checkOut hc (f := fun k => lastF r a m (k + 1) - lastF r a m k) (fun k hk => (fast_step hc h0 ha h1 (List.getElem?_eq_getElem hk)).1)
    refine this.trans ?_
    simp only [decide_eq_true_eq]
    intro k hk
    have := (fast_step hc h0 ha h1 (List.getElem?_eq_getElem hk)).2
    have := (hw.2 _ (List.getElem_mem hk)).2
    omega
  · rw [setW_len, tmz_setW (g := fun k => lastF r a m k) (lastF_zero r a m) (fun k hk => rfl) _ (Nat.le_refl _)]
    rfl
theorem waitAt_get {r : Rec} {M : Int} {k : Nat} {x : It} (hx : r.items[k]? = some x) : waitAt r M k = min x.wait M := by unfold waitAt; rw [hx]
theorem idleS_set {r : Rec} (hc : checkB r = true) {M : Int} (h0 : 0 ≤ M) (h1 : M ≤ 1000000) : idleS r M = (⟨r.cols, r.rows, setW r.items (waitAt r M)⟩, 0) ∧ checkB ⟨r.cols, r.rows, setW r.items (waitAt r M)⟩ = true ∧
    tmz (setW r.items (waitAt r M)) (setW r.items (waitAt r M)).length ≤ tmz r.items r.items.length := by
  have hw := waits_of hc
  refine ⟨?_, ?_, ?_⟩
  · unfold idleS
    have hB : wB M 0 1000000 = true := by simp [wB]; omega
    rw [if_pos hc, if_pos hB, setW_min]
  · have := checkOut hc (f := waitAt r M) (fun k hk => by
      rw [waitAt_get (List.getElem?_eq_getElem hk)]
      have := (hw.2 _ (List.getElem_mem hk)).1
      omega)
    refine this.trans ?_
    simp only [decide_eq_true_eq]
    intro k hk
    rw [waitAt_get (List.getElem?_eq_getElem hk)]
    omega
  · rw [setW_len]
    have key : ∀ k, k ≤ r.items.length → tmz (setW r.items (waitAt r M)) k ≤ tmz r.items k := by
      intro k
      induction k with
      | zero => intro _; exact Int.le_refl _
      | succ k ih =>
        intro hk
        obtain ⟨x, hx⟩ : ∃ x, r.items[k]? = some x := ⟨_, List.getElem?_eq_getElem (by omega)⟩
        rw [tmz_succ (setW_get hx), tmz_succ hx, waitAt_get hx]
        have := ih (by omega)
        simp only
        omega
    exact key _ (Nat.le_refl _)
theorem idleS_same {r : Rec} (hc : checkB r = true) : idleS r 1000000 = (r, 0) := by
  have hw := waits_of hc
  rw [(idleS_set hc (by decide) (by decide)).1, setW_self fun k x hx => ?_]
  rw [waitAt_get hx]
  have := (hw.2 x (List.mem_of_getElem? hx)).2
  omega
end Go.Proofs.YtnndmokndgnidaaGreatDoor
namespace Go.Proofs.YtnndmokndgnidaaGreatDoor
open Go Go.Fen
set_option linter.unusedSimpArgs false
set_option linter.unusedVariables false
attribute [local irreducible] RunX WP ACall AnyP OpA ProtL
set_option maxRecDepth 8000
theorem growIt (w0 : World) (S : List Blk) (n : Nat) (h1 : 1 ≤ n) (h2 : n ≤ 100000) (R : AOut → List Blk → Prop) (h : R (.ret (.sown S.length 0 0)) (S ++ [.arr 29 5 0 0 []])) :
    ACall Tryz.prog w0 64 [.snil, .int .i64 (n : Int)] S R := by
  unfold ACall
  refine ⟨Go.Proofs.enters_of Tryz.func64 (by kernel_rfl) rfl, fun ι ψ w cargs hRel hl hargs => ?_⟩
  obtain ⟨c0, c1, rfl⟩ : ∃ c0 c1, cargs = #[c0, c1] := by
    match cargs, hl with
    | ⟨[c0, c1]⟩, _ => exact ⟨c0, c1, rfl⟩
  have v0 := hargs 0 _ _ rfl rfl
  obtain rfl := (hargs 1 _ _ rfl rfl).int_inv
  cases v0 with
  | snil =>
  obtain ⟨i, z, hi, hz, hs, hb, hzs⟩ := einfo_spec ei_29
  refine (Go.Proofs.Any8.slices_Grow_grow Go.Proofs.Tryz.growIt i z hi hz (by omega) none 0 0 n [] w (Nat.le_refl _) (by omega) ?_ (by omega) (by simp) (fun _ => rfl) (fun a ha => by cases ha)).mono ?_
  · rw [hb]; omega
  rintro e w' ⟨rfl, rfl⟩
  have hcm := grownCap_le_maxLen w (0 + n) 0 29 (by simp only [maxLen]; omega)
  have hge := grownCap_ge w (0 + n) 0 29
  have key := hRel.drew.newArr 29 5 0 (grownCap w (0 + n) 0 29) [] (#[] ++ Builtin.zeroCells z.cells (0 + n - 0) ++ Builtin.zeroCells z.cells (grownCap w (0 + n) 0 29 - (0 + n))) rfl rfl (by omega) (Nat.zero_le _) hcm ?_ (fun j x e => by simp [flat] at e)
  · refine ⟨_, _, .ret (.sown S.length 0 0), _, Ext.push ι ψ _, key, ?_, h⟩
    refine .sown _ _ _ _ _ ⟨0, 0, .slice (some ⟨w.heap.size, 0, none⟩) 0 (grownCap w (0 + n) 0 29), 5⟩ ?_ (Nat.le_refl _) (fun _ => rfl)
    rw [← hRel.len]; simp
  · simp only [Array.size_append, size_zeroCells, hzs, List.size_toArray, List.length_nil]
    omega
end Go.Proofs.YtnndmokndgnidaaGreatDoor
namespace Go.Proofs.YtnndmokndgnidaaGreatDoor
open Go Go.Fen
set_option linter.unusedSimpArgs false
set_option linter.unusedVariables false
attribute [local irreducible] RunX WP ACall AnyP OpA ProtL
set_option maxRecDepth 8000
theorem wraps : IntKind.i64.wrap 0 = 0 ∧ IntKind.i64.wrap 1 = 1 ∧ IntKind.i64.wrap 2 = 2 ∧ IntKind.i64.wrap 3 = 3 := by decide
set_option maxHeartbeats 8000000 in
theorem concatIt (w0 : World) (S : List Blk) (A B : List It) (x : It) (fA fB : Bool) (hA : A.length ≤ 1000) (hB : B.length ≤ 1000) (b g fz a ga fa : Nat) (hb : S[b]? = some (.arr 22 1 fz g [.sval fA (A.map It.av), .sown a ga 1, .sval fB (B.map It.av)]))
    (ha : S[a]? = some (.arr 29 5 fa ga [x.av])) (R : AOut → List Blk → Prop) (h : R (.ret (.sval false ((A ++ x :: B).map It.av))) S) :
    ACall Tryz.prog w0 50 [.sown b g 3] S R := by
  obtain ⟨_, w1, w2, w3⟩ := wraps
  have hbl := (List.getElem?_eq_some_iff.1 hb).1
  have hal := (List.getElem?_eq_some_iff.1 ha).1
  have q1 : IntKind.i64.wrap (0 + (A.length : Int)) = (A.length : Int) := by rw [Int.zero_add]; exact IntWalk.i64_in _ (by omega)
  have q2 : IntKind.i64.wrap ((A.length : Int) + 1) = ((A.length + 1 : Nat) : Int) := (IntWalk.i64_in _ (by omega)).trans (by omega)
  have q2' : IntKind.i64.wrap ((A.length : Int) + ((1 : Nat) : Int)) = ((A.length + 1 : Nat) : Int) := (IntWalk.i64_in _ (by omega)).trans (by omega)
  have q3 : IntKind.i64.wrap (((A.length + 1 : Nat) : Int) + (B.length : Int)) = ((A.length + 1 + B.length : Nat) : Int) := (IntWalk.i64_in _ (by omega)).trans (by omega)
  have p1 : decide ((A.length : Int) < 0) = false := by simp
  have p2 : decide (((A.length + 1 : Nat) : Int) < 0) = false := by simp; omega
  have p3 : decide (((A.length + 1 + B.length : Nat) : Int) < 0) = false := by simp; omega
  have hgr := Lib.hid (fun S' => growIt w0 S' (A.length + 1 + B.length) (by omega) (by omega))
  have r0 : A.length * 48 ≤ 140737488355328 := by omega
  have r1 : (0 + A.length) * 48 ≤ 140737488355328 := by omega
  have r2 : (A.length + 1) * 48 ≤ 140737488355328 := by omega
  have r3 : (A.length + 1 + B.length) * 48 ≤ 140737488355328 := by omega
  have okA := It.ok A
  have okB := It.ok B
  simp only [okEls, AV.cells] at okA okB
  clear hA hB
  unfold It.av at ha
  refine enter Tryz.func50 rfl (by decide +kernel) (by rw [Tryz.ntmps50]; simp) (by rw [Tryz.ntmps50]; decide) (fun hO => ?_); rw [Tryz.ntmps50]
  repeat' first
    | apply x_seq | apply x_skip | apply x_block | apply x_exit | apply x_ret | apply x_ops_nil | apply p_blk | apply p_exit_it | apply p_exit_hit | apply p_ret_it | apply p_ret_blk | apply p_panic_it | apply p_panic_blk | apply p_end
    | (apply p_exit_miss; (focus rfl))
    | (apply x_region; simp only [List.toList_toArray])
    | (apply x_step0; (focus rfl); (focus (simp only [go_sem, *]; (try rfl); done)); (focus rfl); simp only [putA])
    | (apply x_panic; (focus (simp only [go_sem, *]; (try rfl); done)); (focus rfl); (focus (simp only [go_sem, *]; (try rfl); done)))
    | (apply x_step; (iterate 2 (focus (simp only [go_sem, *]; (try rfl); done))); (focus rfl); simp only [putA])
    | (apply x_unwanted; (focus (simp only [go_sem, *]; (try rfl); done)); (focus rfl); simp only [putA])
    | (apply x_condT; (focus (simp only [go_sem, *]; (try rfl); done)))
    | (apply x_condF; (focus (simp only [go_sem, *]; (try rfl); done)))
    | (apply x_guardS; (focus rfl); (fail_if_success (focus (show _ = some true; (focus (simp only [go_sem, *]; (try rfl); done))))); (focus (simp only [go_sem, *]; (try rfl); done)); all_goals (intro hb; try simp only [Bool.not_eq_true', Bool.not_eq_false'] at hb))
    | (apply x_condS; (focus (simp only [go_sem, *]; (try rfl); done)); all_goals (intro hb; try simp only [Bool.not_eq_true', Bool.not_eq_false'] at hb))
    | apply x_loop | apply x_lp
  refine x_callR (f := 64) (A := [.snil, .int .i64 ((A.length + 1 + B.length : Nat) : Int)]) (by (simp only [go_sem, *]; try rfl)) rfl (by (simp only [go_sem, *]; try rfl)) rfl (by (simp only [go_sem, *]; try rfl)) ?_
  refine hgr.out _ _ ?_
  simp only [afterCall, putA]
  repeat' first
    | apply x_seq | apply x_skip | apply x_block | apply x_exit | apply x_ret | apply x_ops_nil | apply p_blk | apply p_exit_it | apply p_exit_hit | apply p_ret_it | apply p_ret_blk | apply p_panic_it | apply p_panic_blk | apply p_end
    | (apply p_exit_miss; (focus rfl))
    | (apply x_region; simp only [List.toList_toArray])
    | (apply x_step0; (focus rfl); (focus (simp only [go_sem, *, It.av, List.length_append]; (try rfl); done)); (focus rfl); simp only [putA])
    | (apply x_panic; (focus (simp only [go_sem, *, It.av, List.length_append]; (try rfl); done)); (focus rfl); (focus (simp only [go_sem, *, It.av, List.length_append]; (try rfl); done)))
    | (apply x_step; (iterate 2 (focus (simp only [go_sem, *, It.av, List.length_append]; (try rfl); done))); (focus rfl); simp only [putA])
    | (apply x_unwanted; (focus (simp only [go_sem, *, It.av, List.length_append]; (try rfl); done)); (focus rfl); simp only [putA])
    | (apply x_condT; (focus (simp only [go_sem, *, It.av, List.length_append]; (try rfl); done)))
    | (apply x_condF; (focus (simp only [go_sem, *, It.av, List.length_append]; (try rfl); done)))
    | (apply x_guardS; (focus rfl); (fail_if_success (focus (show _ = some true; (focus (simp only [go_sem, *, It.av, List.length_append]; (try rfl); done))))); (focus (simp only [go_sem, *, It.av, List.length_append]; (try rfl); done)); all_goals (intro hb; try simp only [Bool.not_eq_true', Bool.not_eq_false'] at hb))
    | (apply x_condS; (focus (simp only [go_sem, *, It.av, List.length_append]; (try rfl); done)); all_goals (intro hb; try simp only [Bool.not_eq_true', Bool.not_eq_false'] at hb))
    | apply x_loop | apply x_lp
  (apply f_ret; iterate 7 (focus (simp only [go_sem, *, Tryz.results50, List.length_append]; (try rfl); done)))
  refine cast (congrArg (fun l => R (.ret (.sval false l)) S) ?_) h
  simp [It.av]
end Go.Proofs.YtnndmokndgnidaaGreatDoor
namespace Go.Proofs.YtnndmokndgnidaaGreatDoor
open Go Go.Fen
set_option linter.unusedSimpArgs false
set_option linter.unusedVariables false
attribute [local irreducible] RunX WP ACall AnyP OpA ProtL
set_option maxRecDepth 8000
def joinS (a b : Rec) (w : Int) : Rec × Int :=
  if checkB a then (if checkB b then (if wB w 0 1000000 then (if a.items.length + b.items.length < 1000 then (⟨a.cols, a.rows, a.items ++ ⟨w, 3, b.cols, b.rows, []⟩ :: b.items⟩, 0) else (zeroR, 3)) else (zeroR, 2)) else (zeroR, 520)) else (zeroR, 520)
theorem chk_len {r : Rec} (h : checkB r = true) : r.items.length ≤ 1000 := (waits_of h).1
set_option maxHeartbeats 8000000 in
theorem join (w0 : World) (S : List Blk) (a b : Rec) (hma : (a.items.length : Int) < 9223372036854775807) (hmb : (b.items.length : Int) < 9223372036854775807) (w : Int) (R : AOut → List Blk → Prop) (h : R (.ret (resAV (joinS a b w))) S) :
    ACall Tryz.prog w0 23 [a.av, b.av, .int .i64 w] S R := by
  obtain ⟨_, w1, w2, w3⟩ := wraps
  have ca := fun S' => check w0 S' a hma
  have cb := fun S' => check w0 S' b hmb
  have hwi := Lib.hid (fun S' => within' w0 S' w 0 1000000)
  unfold joinS at h
  unfold resAV at h
  cases hca : checkB a with
  | false =>
    simp only [hca, Bool.false_eq_true, if_false] at h ca
    clear cb hma hmb
    unfold Rec.av zeroR at h
    unfold Rec.av at ca ⊢
    replace ca := Lib.hid ca
    refine enter Tryz.func23 rfl (by decide +kernel) (by rw [Tryz.ntmps23]; simp) (by rw [Tryz.ntmps23]; decide) (fun hO => ?_); rw [Tryz.ntmps23]
    repeat' first
      | apply x_seq | apply x_skip | apply x_block | apply x_exit | apply x_ret | apply x_ops_nil | apply p_blk | apply p_exit_it | apply p_exit_hit | apply p_ret_it | apply p_ret_blk | apply p_panic_it | apply p_panic_blk | apply p_end
      | (apply p_exit_miss; (focus rfl))
      | (apply x_region; simp only [List.toList_toArray])
      | (apply x_step0; (focus rfl); (focus (simp only [go_sem, *]; (try rfl); done)); (focus rfl); simp only [putA])
      | (apply x_callA []; (focus (simp only [go_sem, *]; (try rfl); done)); (focus rfl); (focus (simp only [go_sem, *]; (try rfl); done)); (focus rfl); (iterate 2 (focus (simp only [go_sem, *]; (try rfl); done))); (first | (apply ca.out)); simp only [afterCall, putA])
      | (apply x_panic; (focus (simp only [go_sem, *]; (try rfl); done)); (focus rfl); (focus (simp only [go_sem, *]; (try rfl); done)))
      | (apply x_step; (iterate 2 (focus (simp only [go_sem, *]; (try rfl); done))); (focus rfl); simp only [putA])
      | (apply x_unwanted; (focus (simp only [go_sem, *]; (try rfl); done)); (focus rfl); simp only [putA])
      | (apply x_condT; (focus (simp only [go_sem, *]; (try rfl); done)))
      | (apply x_condF; (focus (simp only [go_sem, *]; (try rfl); done)))
      | (apply x_guardS; (focus rfl); (fail_if_success (focus (show _ = some true; (focus (simp only [go_sem, *]; (try rfl); done))))); (focus (simp only [go_sem, *]; (try rfl); done)); all_goals (intro hb; try simp only [Bool.not_eq_true', Bool.not_eq_false'] at hb))
      | (apply x_condS; (focus (simp only [go_sem, *]; (try rfl); done)); all_goals (intro hb; try simp only [Bool.not_eq_true', Bool.not_eq_false'] at hb))
      | apply x_loop | apply x_lp
    (apply f_ret; iterate 7 (focus (simp only [go_sem, *, Tryz.results23]; (try rfl); done)))
    exact h
  | true =>
    cases hcb : checkB b with
    | false =>
      simp only [hca, hcb, Bool.false_eq_true, if_false, if_true] at h ca cb
      clear hma hmb
      unfold Rec.av zeroR at h
      unfold Rec.av at ca cb ⊢
      replace ca := Lib.hid ca
      replace cb := Lib.hid cb
      refine enter Tryz.func23 rfl (by decide +kernel) (by rw [Tryz.ntmps23]; simp) (by rw [Tryz.ntmps23]; decide) (fun hO => ?_); rw [Tryz.ntmps23]
      repeat' first
        | apply x_seq | apply x_skip | apply x_block | apply x_exit | apply x_ret | apply x_ops_nil | apply p_blk | apply p_exit_it | apply p_exit_hit | apply p_ret_it | apply p_ret_blk | apply p_panic_it | apply p_panic_blk | apply p_end
        | (apply p_exit_miss; (focus rfl))
        | (apply x_region; simp only [List.toList_toArray])
        | (apply x_step0; (focus rfl); (focus (simp only [go_sem, *]; (try rfl); done)); (focus rfl); simp only [putA])
        | (apply x_callA []; (focus (simp only [go_sem, *]; (try rfl); done)); (focus rfl); (focus (simp only [go_sem, *]; (try rfl); done)); (focus rfl); (iterate 2 (focus (simp only [go_sem, *]; (try rfl); done))); (first | (apply ca.out) | (apply cb.out)); simp only [afterCall, putA])
        | (apply x_panic; (focus (simp only [go_sem, *]; (try rfl); done)); (focus rfl); (focus (simp only [go_sem, *]; (try rfl); done)))
        | (apply x_step; (iterate 2 (focus (simp only [go_sem, *]; (try rfl); done))); (focus rfl); simp only [putA])
        | (apply x_unwanted; (focus (simp only [go_sem, *]; (try rfl); done)); (focus rfl); simp only [putA])
        | (apply x_condT; (focus (simp only [go_sem, *]; (try rfl); done)))
        | (apply x_condF; (focus (simp only [go_sem, *]; (try rfl); done)))
        | (apply x_guardS; (focus rfl); (fail_if_success (focus (show _ = some true; (focus (simp only [go_sem, *]; (try rfl); done))))); (focus (simp only [go_sem, *]; (try rfl); done)); all_goals (intro hb; try simp only [Bool.not_eq_true', Bool.not_eq_false'] at hb))
        | (apply x_condS; (focus (simp only [go_sem, *]; (try rfl); done)); all_goals (intro hb; try simp only [Bool.not_eq_true', Bool.not_eq_false'] at hb))
        | apply x_loop | apply x_lp
      (apply f_ret; iterate 7 (focus (simp only [go_sem, *, Tryz.results23]; (try rfl); done)))
      exact h
    | true =>
      have la := chk_len hca
      have lb := chk_len hcb
      simp only [hca, hcb, if_true] at h ca cb
      clear hma hmb
      cases hww : wB w 0 1000000 with
      | false =>
        simp only [hww, Bool.false_eq_true, if_false] at h
        replace hwi := hwi.out
        rw [hww] at hwi
        unfold Rec.av zeroR at h
        unfold Rec.av at ca cb ⊢
        replace ca := Lib.hid ca
        replace cb := Lib.hid cb
        replace hwi := Lib.hid hwi
        refine enter Tryz.func23 rfl (by decide +kernel) (by rw [Tryz.ntmps23]; simp) (by rw [Tryz.ntmps23]; decide) (fun hO => ?_); rw [Tryz.ntmps23]
        repeat' first
          | apply x_seq | apply x_skip | apply x_block | apply x_exit | apply x_ret | apply x_ops_nil | apply p_blk | apply p_exit_it | apply p_exit_hit | apply p_ret_it | apply p_ret_blk | apply p_panic_it | apply p_panic_blk | apply p_end
          | (apply p_exit_miss; (focus rfl))
          | (apply x_region; simp only [List.toList_toArray])
          | (apply x_step0; (focus rfl); (focus (simp only [go_sem, *]; (try rfl); done)); (focus rfl); simp only [putA])
          | (apply x_callA []; (focus (simp only [go_sem, *]; (try rfl); done)); (focus rfl); (focus (simp only [go_sem, *]; (try rfl); done)); (focus rfl); (iterate 2 (focus (simp only [go_sem, *]; (try rfl); done))); (first | (apply ca.out) | (apply cb.out) | (apply hwi.out)); simp only [afterCall, putA])
          | (apply x_panic; (focus (simp only [go_sem, *]; (try rfl); done)); (focus rfl); (focus (simp only [go_sem, *]; (try rfl); done)))
          | (apply x_step; (iterate 2 (focus (simp only [go_sem, *]; (try rfl); done))); (focus rfl); simp only [putA])
          | (apply x_unwanted; (focus (simp only [go_sem, *]; (try rfl); done)); (focus rfl); simp only [putA])
          | (apply x_condT; (focus (simp only [go_sem, *]; (try rfl); done)))
          | (apply x_condF; (focus (simp only [go_sem, *]; (try rfl); done)))
          | (apply x_guardS; (focus rfl); (fail_if_success (focus (show _ = some true; (focus (simp only [go_sem, *]; (try rfl); done))))); (focus (simp only [go_sem, *]; (try rfl); done)); all_goals (intro hb; try simp only [Bool.not_eq_true', Bool.not_eq_false'] at hb))
          | (apply x_condS; (focus (simp only [go_sem, *]; (try rfl); done)); all_goals (intro hb; try simp only [Bool.not_eq_true', Bool.not_eq_false'] at hb))
          | apply x_loop | apply x_lp
        (apply f_ret; iterate 7 (focus (simp only [go_sem, *, Tryz.results23]; (try rfl); done)))
        exact h
      | true =>
        simp only [hww, if_true] at h
        replace hwi := hwi.out
        rw [hww] at hwi
        have q1 : IntKind.i64.wrap ((a.items.length : Int) + (b.items.length : Int)) = ((a.items.length + b.items.length : Nat) : Int) := (IntWalk.i64_in _ (by omega)).trans (by omega)
        by_cases hlt : a.items.length + b.items.length < 1000
        · rw [if_pos hlt] at h
          have d1 : decide ((1000 : Int) ≤ ((a.items.length + b.items.length : Nat) : Int)) = false := by simp; omega
          have hcc : ∀ (S' : List Blk) (p g fz q gq fq : Nat), S'[p]? = some (.arr 22 1 fz g [.sval false (a.items.map It.av), .sown q gq 1, .sval false (b.items.map It.av)]) → S'[q]? = some (.arr 29 5 fq gq [.agg [.int .i64 w, .int .i64 3, .int .i64 b.cols, .int .i64 b.rows, .str []]]) →
              ∀ R : AOut → List Blk → Prop, R (.ret (.sval false ((a.items ++ ⟨w, 3, b.cols, b.rows, []⟩ :: b.items).map It.av))) S' → ACall Tryz.prog w0 50 [.sown p g 3] S' R :=
            fun S' p g fz q gq fq h1 h2 R h3 => concatIt w0 S' a.items b.items ⟨w, 3, b.cols, b.rows, []⟩ false false la lb p g fz q gq fq h1 h2 R h3
          obtain ⟨l, hl⟩ : ∃ l, l = a.items ++ (It.mk w 3 b.cols b.rows []) :: b.items := ⟨_, rfl⟩
          rw [← hl] at h hcc
          clear hlt la lb hl
          unfold Rec.av at h
          unfold Rec.av at ca cb ⊢
          replace ca := Lib.hid ca
          replace cb := Lib.hid cb
          replace hwi := Lib.hid hwi
          replace hcc := Lib.hid hcc
          refine enter Tryz.func23 rfl (by decide +kernel) (by rw [Tryz.ntmps23]; simp) (by rw [Tryz.ntmps23]; decide) (fun hO => ?_); rw [Tryz.ntmps23]
          repeat' first
            | apply x_seq | apply x_skip | apply x_block | apply x_exit | apply x_ret | apply x_ops_nil | apply p_blk | apply p_exit_it | apply p_exit_hit | apply p_ret_it | apply p_ret_blk | apply p_panic_it | apply p_panic_blk | apply p_end
            | (apply p_exit_miss; (focus rfl))
            | (apply x_region; simp only [List.toList_toArray])
            | (apply x_step0; (focus rfl); (focus (simp only [go_sem, *]; (try rfl); done)); (focus rfl); simp only [putA])
            | (apply x_callA []; (focus (simp only [go_sem, *]; (try rfl); done)); (focus rfl); (focus (simp only [go_sem, *]; (try rfl); done)); (focus rfl); (iterate 2 (focus (simp only [go_sem, *]; (try rfl); done))); (first | (apply ca.out) | (apply cb.out) | (apply hwi.out) | (apply hcc.out; (iterate 2 (focus (simp only [go_sem, *]; (try rfl); done))))); simp only [afterCall, putA])
            | (apply x_panic; (focus (simp only [go_sem, *]; (try rfl); done)); (focus rfl); (focus (simp only [go_sem, *]; (try rfl); done)))
            | (apply x_step; (iterate 2 (focus (simp only [go_sem, *]; (try rfl); done))); (focus rfl); simp only [putA])
            | (apply x_unwanted; (focus (simp only [go_sem, *]; (try rfl); done)); (focus rfl); simp only [putA])
            | (apply x_condT; (focus (simp only [go_sem, *]; (try rfl); done)))
            | (apply x_condF; (focus (simp only [go_sem, *]; (try rfl); done)))
            | (apply x_guardS; (focus rfl); (fail_if_success (focus (show _ = some true; (focus (simp only [go_sem, *]; (try rfl); done))))); (focus (simp only [go_sem, *]; (try rfl); done)); all_goals (intro hb; try simp only [Bool.not_eq_true', Bool.not_eq_false'] at hb))
            | (apply x_condS; (focus (simp only [go_sem, *]; (try rfl); done)); all_goals (intro hb; try simp only [Bool.not_eq_true', Bool.not_eq_false'] at hb))
            | apply x_loop | apply x_lp
            | (apply d_draw; (focus exact mixed); (focus ((simp only [List.size_toArray, List.length_cons, List.length_nil, Nat.reduceAdd]; try rfl); done)))
            | (apply d_done; (focus decide +kernel))
            | ((first | (apply d_take 0; (focus decide +kernel)) | (apply d_take 1; (focus decide +kernel)) | (apply d_take 2; (focus decide +kernel)) | (apply d_take 3; (focus decide +kernel)) | (apply d_take 4; (focus decide +kernel)) | (apply d_take 5; (focus decide +kernel)) | (apply d_take 6; (focus decide +kernel)) | (apply d_take 7; (focus decide +kernel)) | (apply d_take 8; (focus decide +kernel)) | (apply d_take 9; (focus decide +kernel)) | (apply d_take 10; (focus decide +kernel)) | (apply d_take 11; (focus decide +kernel)) | (apply d_take 12; (focus decide +kernel)) | (apply d_take 13; (focus decide +kernel)) | (apply d_take 14; (focus decide +kernel)) | (apply d_take 15; (focus decide +kernel)) | (apply d_take 16; (focus decide +kernel)) | (apply d_take 17; (focus decide +kernel))); (focus (first | exact qds_FPost | exact qds_RPost | exact qds_YB | assumption)); (focus rfl); (iterate 3 (focus (simp only [go_sem, *]; (try rfl); done))); (focus rfl); (focus (simp only [go_sem, *]; (try rfl); done)); simp only [putA])
            | ((first | (apply d_unw 0; (focus decide +kernel)) | (apply d_unw 1; (focus decide +kernel)) | (apply d_unw 2; (focus decide +kernel)) | (apply d_unw 3; (focus decide +kernel)) | (apply d_unw 4; (focus decide +kernel)) | (apply d_unw 5; (focus decide +kernel)) | (apply d_unw 6; (focus decide +kernel)) | (apply d_unw 7; (focus decide +kernel)) | (apply d_unw 8; (focus decide +kernel)) | (apply d_unw 9; (focus decide +kernel)) | (apply d_unw 10; (focus decide +kernel)) | (apply d_unw 11; (focus decide +kernel)) | (apply d_unw 12; (focus decide +kernel)) | (apply d_unw 13; (focus decide +kernel)) | (apply d_unw 14; (focus decide +kernel)) | (apply d_unw 15; (focus decide +kernel)) | (apply d_unw 16; (focus decide +kernel)) | (apply d_unw 17; (focus decide +kernel))); (focus (first | exact qds_FPost | exact qds_RPost | exact qds_YB | assumption)); (focus rfl); (iterate 2 (focus (simp only [go_sem, *]; (try rfl); done))); (focus rfl); simp only [putA])
            | (first | (apply d_one 0; (focus decide +kernel)) | (apply d_one 1; (focus decide +kernel)) | (apply d_one 2; (focus decide +kernel)) | (apply d_one 3; (focus decide +kernel)) | (apply d_one 4; (focus decide +kernel)) | (apply d_one 5; (focus decide +kernel)) | (apply d_one 6; (focus decide +kernel)) | (apply d_one 7; (focus decide +kernel)) | (apply d_one 8; (focus decide +kernel)) | (apply d_one 9; (focus decide +kernel)) | (apply d_one 10; (focus decide +kernel)) | (apply d_one 11; (focus decide +kernel)) | (apply d_one 12; (focus decide +kernel)) | (apply d_one 13; (focus decide +kernel)) | (apply d_one 14; (focus decide +kernel)) | (apply d_one 15; (focus decide +kernel)) | (apply d_one 16; (focus decide +kernel)) | (apply d_one 17; (focus decide +kernel)))
            | (apply o_step; (iterate 3 (focus (simp only [go_sem, *]; (try rfl); done))); (focus rfl); simp only [putA])
            | (apply o_unw; (iterate 2 (focus (simp only [go_sem, *]; (try rfl); done))); (focus rfl); simp only [putA])
            | apply pr_nil | apply pr_same | apply pr_go | apply pl_nil | apply pl_none | (apply pl_skip; (focus decide +kernel)) | (apply pl_one; (focus (simp only [go_sem, *]; (try rfl); done)))
            | (apply o_call []; (iterate 2 (focus (simp only [go_sem, *]; (try rfl); done))); (focus rfl); (focus (simp only [go_sem, *]; (try rfl); done)); (focus rfl); (iterate 2 (focus (simp only [go_sem, *]; (try rfl); done))); (first | (apply ca.out) | (apply cb.out) | (apply hwi.out) | (apply hcc.out; (iterate 2 (focus (simp only [go_sem, *]; (try rfl); done))))); simp only [afterOp, putA])
          (apply f_ret; iterate 7 (focus (simp only [go_sem, *, Tryz.results23]; (try rfl); done)))
          exact h
        · rw [if_neg hlt] at h
          have d1 : decide ((1000 : Int) ≤ ((a.items.length + b.items.length : Nat) : Int)) = true := by simp; omega
          clear hlt la lb
          unfold Rec.av zeroR at h
          unfold Rec.av at ca cb ⊢
          replace ca := Lib.hid ca
          replace cb := Lib.hid cb
          replace hwi := Lib.hid hwi
          refine enter Tryz.func23 rfl (by decide +kernel) (by rw [Tryz.ntmps23]; simp) (by rw [Tryz.ntmps23]; decide) (fun hO => ?_); rw [Tryz.ntmps23]
          repeat' first
            | apply x_seq | apply x_skip | apply x_block | apply x_exit | apply x_ret | apply x_ops_nil | apply p_blk | apply p_exit_it | apply p_exit_hit | apply p_ret_it | apply p_ret_blk | apply p_panic_it | apply p_panic_blk | apply p_end
            | (apply p_exit_miss; (focus rfl))
            | (apply x_region; simp only [List.toList_toArray])
            | (apply x_step0; (focus rfl); (focus (simp only [go_sem, *]; (try rfl); done)); (focus rfl); simp only [putA])
            | (apply x_callA []; (focus (simp only [go_sem, *]; (try rfl); done)); (focus rfl); (focus (simp only [go_sem, *]; (try rfl); done)); (focus rfl); (iterate 2 (focus (simp only [go_sem, *]; (try rfl); done))); (first | (apply ca.out) | (apply cb.out) | (apply hwi.out)); simp only [afterCall, putA])
            | (apply x_panic; (focus (simp only [go_sem, *]; (try rfl); done)); (focus rfl); (focus (simp only [go_sem, *]; (try rfl); done)))
            | (apply x_step; (iterate 2 (focus (simp only [go_sem, *]; (try rfl); done))); (focus rfl); simp only [putA])
            | (apply x_unwanted; (focus (simp only [go_sem, *]; (try rfl); done)); (focus rfl); simp only [putA])
            | (apply x_condT; (focus (simp only [go_sem, *]; (try rfl); done)))
            | (apply x_condF; (focus (simp only [go_sem, *]; (try rfl); done)))
            | (apply x_guardS; (focus rfl); (fail_if_success (focus (show _ = some true; (focus (simp only [go_sem, *]; (try rfl); done))))); (focus (simp only [go_sem, *]; (try rfl); done)); all_goals (intro hb; try simp only [Bool.not_eq_true', Bool.not_eq_false'] at hb))
            | (apply x_condS; (focus (simp only [go_sem, *]; (try rfl); done)); all_goals (intro hb; try simp only [Bool.not_eq_true', Bool.not_eq_false'] at hb))
            | apply x_loop | apply x_lp
          (apply f_ret; iterate 7 (focus (simp only [go_sem, *, Tryz.results23]; (try rfl); done)))
          exact h
end Go.Proofs.YtnndmokndgnidaaGreatDoor
namespace Go.Proofs.YtnndmokndgnidaaGreatDoor
open Go Go.Fen
set_option linter.unusedSimpArgs false
set_option linter.unusedVariables false
attribute [local irreducible] RunX WP ACall AnyP OpA ProtL
set_option maxRecDepth 8000
theorem tmz_step {l : List It} (hw : ∀ x ∈ l, 0 ≤ x.wait) (k : Nat) : tmz l k ≤ tmz l (k + 1) := by
  cases hx : l[k]? with
  | none =>
    have hk : l.length ≤ k := by rw [List.getElem?_eq_none_iff] at hx; exact hx
    unfold tmz
    rw [List.take_of_length_le hk, List.take_of_length_le (by omega)]
    exact Int.le_refl _
  | some x =>
    rw [tmz_succ hx]
    have := hw x (List.mem_of_getElem? hx)
    omega
theorem tmz_mono {l : List It} (hw : ∀ x ∈ l, 0 ≤ x.wait) {i j : Nat} (h : i ≤ j) : tmz l i ≤ tmz l j := by
  induction h with
  | refl => exact Int.le_refl _
  | step _ ih => exact Int.le_trans ih (tmz_step hw _)
theorem upTo_ex (l : List It) (t : Int) : ∃ n, UpTo l t n := by
  have key : ∀ m, m ≤ l.length → (∃ n, UpTo l t n) ∨ ∀ j, j < m → tmz l (j + 1) ≤ t := by
    intro m
    induction m with
    | zero => intro _; exact .inr fun j hj => by omega
    | succ m ih =>
      intro hm
      rcases ih (by omega) with h | h
      · exact .inl h
      · by_cases hk : tmz l (m + 1) ≤ t
        · exact .inr fun j hj => by
            by_cases e : j = m
            · rw [e]; exact hk
            · exact h j (by omega)
        · exact .inl ⟨m, h, by omega, fun _ => by omega⟩
  rcases key l.length (Nat.le_refl _) with h | h
  · exact h
  · exact ⟨l.length, h, Nat.le_refl _, fun h => by omega⟩
theorem drop_cons {l : List It} {k : Nat} {x : It} (h : l[k]? = some x) : l.drop k = x :: l.drop (k + 1) := by
  obtain ⟨hk, rfl⟩ := List.getElem?_eq_some_iff.1 h
  exact List.drop_eq_getElem_cons hk
theorem cutL_nil (f m n c r : Int) (o : List It) : cutL f m [] n c r o = ⟨c, r, o⟩ := by unfold cutL; rfl
theorem cutL_step {f m : Int} {l : List It} {k : Nat} {x : It} (h : l[k]? = some x) (c r : Int) (o : List It) : cutL f m (l.drop k) (tmz l k) c r o =
    if m ≤ tmz l (k + 1) then ⟨c, r, o⟩
    else if tmz l (k + 1) < f ∧ x.kind = 3 then cutL f m (l.drop (k + 1)) (tmz l (k + 1)) x.cols x.rows o
    else if f ≤ tmz l (k + 1) then cutL f m (l.drop (k + 1)) (tmz l (k + 1)) c r (o ++ [if o = [] then { x with wait := tmz l (k + 1) - f } else x])
    else cutL f m (l.drop (k + 1)) (tmz l (k + 1)) c r o := by
  rw [drop_cons h, tmz_succ h]
  rw [cutL]
def szA (l : List It) (c r : Int) : Nat → Int × Int
  | 0 => (c, r)
  | k + 1 => match l[k]? with
    | some x => if x.kind = 3 then (x.cols, x.rows) else szA l c r k
    | none => szA l c r k
def setF (w : Int) : List It → List It
  | [] => []
  | x :: l => { x with wait := w } :: l
theorem setF_len (w : Int) (l : List It) : (setF w l).length = l.length := by cases l <;> rfl
theorem cutA {l : List It} (hw : ∀ x ∈ l, 0 ≤ x.wait) {t : Int} {K : Nat} (hK : UpTo l (t - 1) K) (c r : Int) : ∀ n k, n = K - k → k ≤ K → cutL 0 t (l.drop k) (tmz l k) c r (l.take k) = ⟨c, r, l.take K⟩ := by
  intro n
  induction n with
  | zero =>
    intro k hn hk
    obtain rfl : k = K := by omega
    cases hx : l[k]? with
    | none =>
      have hk : l.length ≤ k := by rw [List.getElem?_eq_none_iff] at hx; exact hx
      rw [List.drop_of_length_le hk, cutL_nil]
    | some x =>
      have := hK.2.2 (List.getElem?_eq_some_iff.1 hx).1
      rw [cutL_step hx, if_pos (by omega)]
  | succ n ih =>
    intro k hn hk
    have hkl : k < l.length := by have := hK.2.1; omega
    obtain ⟨x, hx⟩ : ∃ x, l[k]? = some x := ⟨_, List.getElem?_eq_getElem hkl⟩
    have h1 := hK.1 k (by omega)
    have h0 : 0 ≤ tmz l (k + 1) := by have := tmz_mono hw (Nat.zero_le (k + 1)); have e : tmz l 0 = 0 := rfl; omega
    rw [cutL_step hx, if_neg (by omega), if_neg (by omega), if_pos h0]
    have e : (l.take k ++ [if l.take k = [] then { x with wait := tmz l (k + 1) - 0 } else x]) = l.take (k + 1) := by
      rw [List.take_add_one, hx]
      simp only [Option.toList_some]
      congr 2
      split
      · next h =>
        have hk0 : k = 0 := by
          rw [List.take_eq_nil_iff] at h
          rcases h with h | h
          · exact h
          · rw [h] at hkl; simp at hkl
        subst hk0
        rw [tmz_succ hx]
        have e : tmz l 0 = 0 := rfl
        rw [e, Int.zero_add, Int.sub_zero]
      · rfl
    rw [e]
    exact ih (k + 1) (by omega) (by omega)
theorem cutB1 {l : List It} {t M : Int} {K : Nat} (hK : UpTo l (t - 1) K) (hM : ∀ k, tmz l k < M) (c r : Int) : ∀ n k, n = K - k → k ≤ K →
    cutL t M (l.drop k) (tmz l k) (szA l c r k).1 (szA l c r k).2 [] = cutL t M (l.drop K) (tmz l K) (szA l c r K).1 (szA l c r K).2 [] := by
  intro n
  induction n with
  | zero =>
    intro k hn hk
    obtain rfl : k = K := by omega
    rfl
  | succ n ih =>
    intro k hn hk
    have hkl : k < l.length := by have := hK.2.1; omega
    obtain ⟨x, hx⟩ : ∃ x, l[k]? = some x := ⟨_, List.getElem?_eq_getElem hkl⟩
    have h1 := hK.1 k (by omega)
    have h2 := hM (k + 1)
    have nx := ih (k + 1) (by omega) (by omega)
    rw [cutL_step hx, if_neg (by omega)]
    by_cases k3 : x.kind = 3
    · rw [if_pos ⟨by omega, k3⟩, ← nx]
      simp only [szA, hx, if_pos k3]
    · rw [if_neg (fun h => k3 h.2), if_neg (by omega), ← nx]
      simp only [szA, hx, if_neg k3]
theorem cutB2 {l : List It} (hw : ∀ x ∈ l, 0 ≤ x.wait) {t M : Int} {K : Nat} (hK : UpTo l (t - 1) K) (hM : ∀ k, tmz l k < M) (c r : Int) : ∀ n k, n = l.length - k → K ≤ k → k ≤ l.length →
    cutL t M (l.drop k) (tmz l k) c r ((setF (tmz l (K + 1) - t) (l.drop K)).take (k - K)) = ⟨c, r, setF (tmz l (K + 1) - t) (l.drop K)⟩ := by
  intro n
  induction n with
  | zero =>
    intro k hn hk hl
    obtain rfl : k = l.length := by omega
    rw [List.drop_of_length_le (Nat.le_refl _), cutL_nil, List.take_of_length_le (by rw [setF_len]; simp)]
  | succ n ih =>
    intro k hn hk hl
    have hkl : k < l.length := by omega
    obtain ⟨x, hx⟩ : ∃ x, l[k]? = some x := ⟨_, List.getElem?_eq_getElem hkl⟩
    have h1 := hK.2.2 (by omega)
    have h3 := tmz_mono hw (show K + 1 ≤ k + 1 by omega)
    have h2 := hM (k + 1)
    rw [cutL_step hx, if_neg (by omega), if_neg (by omega), if_pos (by omega)]
    rw [← ih (k + 1) (by omega) (by omega) (by omega)]
    congr 1
    have hd : l.drop K ≠ [] := by
      intro h
      have := congrArg List.length h
      simp at this
      omega
    by_cases e : k = K
    · subst e
      rw [drop_cons hx]
      simp only [setF, Nat.sub_self, List.take_zero, List.nil_append, if_true]
      rw [show k + 1 - k = 1 by omega]
      rfl
    · have hne : (setF (tmz l (K + 1) - t) (l.drop K)).take (k - K) ≠ [] := by
        intro h
        have := congrArg List.length h
        simp [setF_len] at this
        omega
      rw [if_neg hne, show k + 1 - K = (k - K) + 1 by omega, List.take_add_one]
      congr 1
      have hg : (setF (tmz l (K + 1) - t) (l.drop K))[k - K]? = some x := by
        have hdx : (l.drop K)[k - K]? = some x := by rw [List.getElem?_drop, show K + (k - K) = k by omega]; exact hx
        cases hl2 : l.drop K with
        | nil => exact absurd hl2 hd
        | cons y m =>
          rw [hl2] at hdx
          obtain ⟨p, hp⟩ : ∃ p, k - K = p + 1 := ⟨k - K - 1, by omega⟩
          rw [hp] at hdx ⊢
          exact hdx
      rw [hg]; rfl
theorem item_kind3 {x : It} (h : itemB x = true) (k3 : x.kind = 3) : sizeB x.cols x.rows = true ∧ x.text = [] := by
  unfold itemB at h
  rw [k3] at h
  simp only [Bool.and_eq_true] at h
  have h2 := h.2
  rw [if_neg (by decide), if_neg (by decide), if_pos (by decide)] at h2
  simpa using h2
theorem szA_ok {l : List It} {c r : Int} (hi : ∀ x ∈ l, itemB x = true) (h : sizeB c r = true) : ∀ k, sizeB (szA l c r k).1 (szA l c r k).2 = true
  | 0 => h
  | k + 1 => by
    simp only [szA]
    cases hx : l[k]? with
    | none => exact szA_ok hi h k
    | some x =>
      simp only
      split
      · next k3 => exact ((item_kind3 (hi x (List.mem_of_getElem? hx)) k3).1)
      · exact szA_ok hi h k
theorem tmz_app (a b : List It) : tmz (a ++ b) (a ++ b).length = tmz a a.length + tmz b b.length := by
  unfold tmz
  rw [List.take_length, List.take_length, List.take_length, List.map_append, List.sum_append]
theorem tmz_cons (x : It) (b : List It) : tmz (x :: b) (x :: b).length = x.wait + tmz b b.length := by
  unfold tmz
  rw [List.take_length, List.take_length, List.map_cons, List.sum_cons]
theorem tmz_setF {l : List It} {x : It} {m : List It} (h : l = x :: m) (w : Int) : tmz (setF w l) (setF w l).length = tmz l l.length - x.wait + w := by
  subst h
  simp only [setF]
  rw [tmz_cons, tmz_cons]
  simp only
  omega
theorem tmz_take (l : List It) (k : Nat) : tmz (l.take k) (l.take k).length = tmz l k := by
  unfold tmz
  rw [List.take_length]
theorem halves {r : Rec} (hc : checkB r = true) (h30 : r.items.length ≤ 30) {t : Int} (h0 : 0 ≤ t) (h1 : t ≤ tmz r.items r.items.length + 1) : ∃ (K : Nat) (B : List It),
    K ≤ r.items.length ∧ B.length = r.items.length - K ∧ cutS r 0 t = (⟨r.cols, r.rows, r.items.take K⟩, 0) ∧ cutS r t (tmz r.items r.items.length + 1 + t) = (⟨(szA r.items r.cols r.rows K).1, (szA r.items r.cols r.rows K).2, B⟩, 0) ∧
    checkB ⟨r.cols, r.rows, r.items.take K⟩ = true ∧ checkB ⟨(szA r.items r.cols r.rows K).1, (szA r.items r.cols r.rows K).2, B⟩ = true ∧
    (∀ j, j < K → tmz r.items (j + 1) < t) ∧ (∀ j, K ≤ j → j < r.items.length → t ≤ tmz r.items (j + 1)) ∧
    (∀ j x, K < j → r.items[j]? = some x → B[j - K]? = some x) ∧ (∀ x, r.items[K]? = some x → B[0]? = some { x with wait := tmz r.items (K + 1) - t }) ∧
    tmz (r.items.take K) (r.items.take K).length = tmz r.items K ∧ tmz r.items K ≤ t ∧
    ((if tmz r.items r.items.length < t then t else tmz r.items r.items.length) = t + tmz B B.length) := by
  have hw := waits_of hc
  have hw0 : ∀ x ∈ r.items, 0 ≤ x.wait := fun x hx => (hw.2 x hx).1
  have hc' := hc
  unfold checkB at hc'
  simp only [Bool.and_eq_true, decide_eq_true_eq, List.all_eq_true] at hc'
  obtain ⟨⟨hsz, hln⟩, hit⟩ := hc'
  obtain ⟨K, hK⟩ := upTo_ex r.items (t - 1)
  have hKl := hK.2.1
  have e0 : tmz r.items 0 = 0 := rfl
  have hT : ∀ k, tmz r.items k ≤ tmz r.items r.items.length := by
    intro k
    by_cases hk : k ≤ r.items.length
    · exact tmz_mono hw0 hk
    · have : tmz r.items k = tmz r.items r.items.length := by
        unfold tmz
        rw [List.take_of_length_le (by omega), List.take_length]
      omega
  have hge : ∀ j, K ≤ j → j < r.items.length → t ≤ tmz r.items (j + 1) := by
    intro j hj hjl
    have := hK.2.2 (by omega)
    have := tmz_mono hw0 (show K + 1 ≤ j + 1 by omega)
    omega
  have hKt : tmz r.items K ≤ t := by
    cases K with
    | zero => omega
    | succ k => have := hK.1 k (by omega); omega
  have a1 := cutA hw0 hK r.cols r.rows K 0 (by omega) (by omega)
  have hM : ∀ k, tmz r.items k < tmz r.items r.items.length + 1 + t := fun k => by have := hT k; omega
  have b1 := cutB1 hK hM r.cols r.rows K 0 (by omega) (by omega)
  have b2 := cutB2 hw0 hK hM (szA r.items r.cols r.rows K).1 (szA r.items r.cols r.rows K).2 (r.items.length - K) K rfl (Nat.le_refl _) hKl
  rw [Nat.sub_self, List.take_zero] at b2
  rw [b2] at b1
  simp only [List.drop_zero, List.take_zero, e0] at a1 b1
  have hBi : ∀ x ∈ setF (tmz r.items (K + 1) - t) (r.items.drop K), itemB x = true := by
    intro y hy
    cases hd : r.items.drop K with
    | nil => rw [hd] at hy; simp [setF] at hy
    | cons x m =>
      have hx : r.items[K]? = some x := by
        have := congrArg (fun l => l[0]?) hd
        simpa using this
      have hmem : ∀ z ∈ x :: m, z ∈ r.items := fun z hz => List.mem_of_mem_drop (by rw [hd]; exact hz)
      rw [hd] at hy
      simp only [setF, List.mem_cons] at hy
      rcases hy with rfl | hy
      · have hix := hit x (hmem x (List.mem_cons_self ..))
        have hwx := hw.2 x (hmem x (List.mem_cons_self ..))
        have hl := (List.getElem?_eq_some_iff.1 hx).1
        have g1 := hge K (Nat.le_refl _) hl
        have g2 := tmz_succ hx
        unfold itemB at hix ⊢
        simp only [Bool.and_eq_true, decide_eq_true_eq] at hix ⊢
        exact ⟨⟨by omega, by omega⟩, hix.2⟩
      · exact hit y (hmem y (List.mem_cons_of_mem _ hy))
  refine ⟨K, setF (tmz r.items (K + 1) - t) (r.items.drop K), hKl, by rw [setF_len]; simp, ?_, ?_, ?_, ?_, fun j hj => by have := hK.1 j hj; omega, hge, ?_, ?_, ?_, hKt, ?_⟩
  · unfold cutS
    rw [if_pos hc, if_neg (by omega)]
    have : (if t > 0 then t else 0) = t := by split <;> omega
    rw [this, a1]
  · unfold cutS
    have h5 : 0 ≤ tmz r.items r.items.length := by have := hT 0; omega
    rw [if_pos hc, if_neg (by omega), if_pos (by omega)]
    exact congrArg (fun x => (x, (0 : Int))) b1
  · unfold checkB
    simp only [Bool.and_eq_true, decide_eq_true_eq, List.all_eq_true]
    exact ⟨⟨hsz, by simp; omega⟩, fun x hx => hit x (List.mem_of_mem_take hx)⟩
  · unfold checkB
    simp only [Bool.and_eq_true, decide_eq_true_eq, List.all_eq_true]
    exact ⟨⟨szA_ok hit hsz K, by rw [setF_len]; simp; omega⟩, hBi⟩
  · intro j x hj hx
    have hdx : (r.items.drop K)[j - K]? = some x := by rw [List.getElem?_drop, show K + (j - K) = j by omega]; exact hx
    cases hd : r.items.drop K with
    | nil => rw [hd] at hdx; simp at hdx
    | cons y m =>
      rw [hd] at hdx
      obtain ⟨p, hp⟩ : ∃ p, j - K = p + 1 := ⟨j - K - 1, by omega⟩
      rw [hp] at hdx ⊢
      exact hdx
  · intro x hx
    rw [drop_cons hx]
    rfl
  · exact tmz_take _ _
  · by_cases hl : K < r.items.length
    · obtain ⟨x, hx⟩ : ∃ x, r.items[K]? = some x := ⟨_, List.getElem?_eq_getElem hl⟩
      have g1 := hge K (Nat.le_refl _) hl
      have g2 := hT (K + 1)
      have g3 := tmz_succ hx
      have g4 : tmz r.items r.items.length = tmz r.items K + tmz (r.items.drop K) (r.items.drop K).length := by
        have := tmz_app (r.items.take K) (r.items.drop K)
        rw [List.take_append_drop, tmz_take] at this
        exact this
      rw [if_neg (by omega), tmz_setF (drop_cons hx)]
      omega
    · obtain rfl : K = r.items.length := by omega
      rw [List.drop_of_length_le (Nat.le_refl _)]
      simp only [setF]
      have : tmz ([] : List It) ([] : List It).length = 0 := rfl
      rw [this]
      split <;> omega
end Go.Proofs.YtnndmokndgnidaaGreatDoor
namespace Go.Proofs.YtnndmokndgnidaaGreatDoor
open Go Go.Fen
set_option linter.unusedSimpArgs false
set_option linter.unusedVariables false
attribute [local irreducible] RunX WP ACall AnyP OpA ProtL
set_option maxRecDepth 8000
set_option maxHeartbeats 4000000 in
theorem refTime (w0 : World) (S : List Blk) (r : Rec) (hw : Waits r.items) (R : AOut → List Blk → Prop) (h : R (.ret (.int .i64 (tmz r.items r.items.length))) S) :
    ACall Tryz.prog w0 39 [r.av, .int .i64 ((r.items.length : Int) - 1)] S R := by
  have hTb : ∀ k, 0 ≤ tmz r.items k ∧ tmz r.items k ≤ 1000000000 := fun k => by have := tmz_bd hw.2 k; have := hw.1; omega
  have Hlen := Lib.hid hw.1
  have HTb := Lib.hid hTb
  have e00 : tmz r.items 0 = 0 := rfl
  clear hTb hw
  unfold Rec.av
  refine enter Tryz.func39 rfl (by decide +kernel) (by rw [Tryz.ntmps39]; simp) (by rw [Tryz.ntmps39]; decide) (fun hO => ?_); rw [Tryz.ntmps39]
  repeat' first
    | apply x_seq | apply x_skip | apply x_block | apply x_exit | apply x_ret | apply x_ops_nil | apply p_blk | apply p_exit_it | apply p_exit_hit | apply p_ret_it | apply p_ret_blk | apply p_panic_it | apply p_panic_blk | apply p_end
    | (apply p_exit_miss; (focus rfl))
    | (apply x_region; simp only [List.toList_toArray])
    | (apply x_step0; (focus rfl); (focus (simp only [go_sem, *]; (try rfl); done)); (focus rfl); simp only [putA])
    | (apply x_panic; (focus (simp only [go_sem, *]; (try rfl); done)); (focus rfl); (focus (simp only [go_sem, *]; (try rfl); done)))
    | (apply x_step; (iterate 2 (focus (simp only [go_sem, *]; (try rfl); done))); (focus rfl); simp only [putA])
    | (apply x_unwanted; (focus (simp only [go_sem, *]; (try rfl); done)); (focus rfl); simp only [putA])
    | (apply x_condT; (focus (simp only [go_sem, *]; (try rfl); done)))
    | (apply x_condF; (focus (simp only [go_sem, *]; (try rfl); done)))
    | (apply x_guardS; (focus rfl); (fail_if_success (focus (show _ = some true; (focus (simp only [go_sem, *]; (try rfl); done))))); (focus (simp only [go_sem, *]; (try rfl); done)); all_goals (intro hb; try simp only [Bool.not_eq_true', Bool.not_eq_false'] at hb))
    | (apply x_condS; (focus (simp only [go_sem, *]; (try rfl); done)); all_goals (intro hb; try simp only [Bool.not_eq_true', Bool.not_eq_false'] at hb))
  refine x_ind (fun (i : Nat) env S' => i ≤ r.items.length ∧ env 1000000 = .dfr [] ∧ env 1 = .int .i64 ((r.items.length : Int) - 1) ∧ env 2 = .own S.length 0 ∧ env 5 = .int .i64 (tmz r.items i) ∧ env 6 = .int .i64 (i : Int) ∧ S' = S ++ [Blk.cells [.int .i64 r.cols, .int .i64 r.rows, .sval false (r.items.map It.av)]]) (fun i => r.items.length - i) 0 ?_ ?_
  · exact ⟨Nat.zero_le _, by (simp only [go_sem, *]; try rfl), by (simp only [go_sem, *]; try rfl), by (simp only [go_sem, *]; try rfl), by (simp only [go_sem, *]; try rfl), by (simp only [go_sem, *]; try rfl), rfl⟩
  · clear e00
    rintro i env S' ⟨hi, e0, e1, e2, e5, e6, rfl⟩ IH
    have HI := Lib.hid IH
    clear IH
    by_cases hlt : i < r.items.length
    · obtain ⟨x, hx⟩ : ∃ x, r.items[i]? = some x := ⟨_, List.getElem?_eq_getElem hlt⟩
      have h1 : decide ((i : Int) ≤ (r.items.length : Int) - 1) = true := by simp; omega
      have hii : (i : Int) < (r.items.length : Int) := by omega
      have hw : IntKind.i64.wrap ((i : Int) + 1) = (i : Int) + 1 := IntWalk.i64_in _ (by have := Hlen.out; omega)
      have q1 : IntKind.i64.wrap (tmz r.items i + x.wait) = tmz r.items (i + 1) := by rw [← tmz_succ hx]; exact IntWalk.i64_in _ (by have := HTb.out (i + 1); omega)
      have Hlt := Lib.hid hlt
      clear hlt hi
      repeat' first
        | apply x_seq | apply x_skip | apply x_block | apply x_exit | apply x_ret | apply x_ops_nil | apply p_blk | apply p_exit_it | apply p_exit_hit | apply p_ret_it | apply p_ret_blk | apply p_panic_it | apply p_panic_blk | apply p_end
        | (apply p_exit_miss; (focus rfl))
        | (apply x_region; simp only [List.toList_toArray])
        | (apply x_step0; (focus rfl); (focus (simp only [go_sem, *, It.av]; (try rfl); done)); (focus rfl); simp only [putA])
        | (apply x_panic; (focus (simp only [go_sem, *, It.av]; (try rfl); done)); (focus rfl); (focus (simp only [go_sem, *, It.av]; (try rfl); done)))
        | (apply x_step; (iterate 2 (focus (simp only [go_sem, *, It.av]; (try rfl); done))); (focus rfl); simp only [putA])
        | (apply x_unwanted; (focus (simp only [go_sem, *, It.av]; (try rfl); done)); (focus rfl); simp only [putA])
        | (apply x_condT; (focus (simp only [go_sem, *, It.av]; (try rfl); done)))
        | (apply x_condF; (focus (simp only [go_sem, *, It.av]; (try rfl); done)))
        | (apply x_guardS; (focus rfl); (fail_if_success (focus (show _ = some true; (focus (simp only [go_sem, *, It.av]; (try rfl); done))))); (focus (simp only [go_sem, *, It.av]; (try rfl); done)); all_goals (intro hb; try simp only [Bool.not_eq_true', Bool.not_eq_false'] at hb))
        | (apply x_condS; (focus (simp only [go_sem, *, It.av]; (try rfl); done)); all_goals (intro hb; try simp only [Bool.not_eq_true', Bool.not_eq_false'] at hb))
        | (apply d_draw; (focus exact mixed); (focus ((simp only [List.size_toArray, List.length_cons, List.length_nil, Nat.reduceAdd]; try rfl); done)))
        | (apply d_done; (focus decide +kernel))
        | ((first | (apply d_take 0; (focus decide +kernel)) | (apply d_take 1; (focus decide +kernel)) | (apply d_take 2; (focus decide +kernel)) | (apply d_take 3; (focus decide +kernel)) | (apply d_take 4; (focus decide +kernel)) | (apply d_take 5; (focus decide +kernel)) | (apply d_take 6; (focus decide +kernel)) | (apply d_take 7; (focus decide +kernel)) | (apply d_take 8; (focus decide +kernel)) | (apply d_take 9; (focus decide +kernel)) | (apply d_take 10; (focus decide +kernel)) | (apply d_take 11; (focus decide +kernel)) | (apply d_take 12; (focus decide +kernel)) | (apply d_take 13; (focus decide +kernel)) | (apply d_take 14; (focus decide +kernel)) | (apply d_take 15; (focus decide +kernel)) | (apply d_take 16; (focus decide +kernel)) | (apply d_take 17; (focus decide +kernel))); (focus (first | exact qds_FPost | exact qds_RPost | exact qds_YB | assumption)); (focus rfl); (iterate 3 (focus (simp only [go_sem, *, It.av]; (try rfl); done))); (focus rfl); (focus (simp only [go_sem, *, It.av]; (try rfl); done)); simp only [putA])
        | ((first | (apply d_unw 0; (focus decide +kernel)) | (apply d_unw 1; (focus decide +kernel)) | (apply d_unw 2; (focus decide +kernel)) | (apply d_unw 3; (focus decide +kernel)) | (apply d_unw 4; (focus decide +kernel)) | (apply d_unw 5; (focus decide +kernel)) | (apply d_unw 6; (focus decide +kernel)) | (apply d_unw 7; (focus decide +kernel)) | (apply d_unw 8; (focus decide +kernel)) | (apply d_unw 9; (focus decide +kernel)) | (apply d_unw 10; (focus decide +kernel)) | (apply d_unw 11; (focus decide +kernel)) | (apply d_unw 12; (focus decide +kernel)) | (apply d_unw 13; (focus decide +kernel)) | (apply d_unw 14; (focus decide +kernel)) | (apply d_unw 15; (focus decide +kernel)) | (apply d_unw 16; (focus decide +kernel)) | (apply d_unw 17; (focus decide +kernel))); (focus (first | exact qds_FPost | exact qds_RPost | exact qds_YB | assumption)); (focus rfl); (iterate 2 (focus (simp only [go_sem, *, It.av]; (try rfl); done))); (focus rfl); simp only [putA])
        | (first | (apply d_one 0; (focus decide +kernel)) | (apply d_one 1; (focus decide +kernel)) | (apply d_one 2; (focus decide +kernel)) | (apply d_one 3; (focus decide +kernel)) | (apply d_one 4; (focus decide +kernel)) | (apply d_one 5; (focus decide +kernel)) | (apply d_one 6; (focus decide +kernel)) | (apply d_one 7; (focus decide +kernel)) | (apply d_one 8; (focus decide +kernel)) | (apply d_one 9; (focus decide +kernel)) | (apply d_one 10; (focus decide +kernel)) | (apply d_one 11; (focus decide +kernel)) | (apply d_one 12; (focus decide +kernel)) | (apply d_one 13; (focus decide +kernel)) | (apply d_one 14; (focus decide +kernel)) | (apply d_one 15; (focus decide +kernel)) | (apply d_one 16; (focus decide +kernel)) | (apply d_one 17; (focus decide +kernel)))
        | (apply o_step; (iterate 3 (focus (simp only [go_sem, *, It.av]; (try rfl); done))); (focus rfl); simp only [putA])
        | (apply o_unw; (iterate 2 (focus (simp only [go_sem, *, It.av]; (try rfl); done))); (focus rfl); simp only [putA])
        | apply pr_nil | apply pr_same | apply pr_go | apply pl_nil | apply pl_none | (apply pl_skip; (focus decide +kernel)) | (apply pl_one; (focus (simp only [go_sem, *, It.av]; (try rfl); done)))
      refine x_keep hO 1 [1, 2, 5, 6] rfl (by (simp only [go_sem, *]; try rfl)) (by (simp only [go_sem, *]; try rfl)) (by (simp only [go_sem, *]; try rfl)) ?_
      simp only [List.take_succ_cons, List.take_zero]
      refine HI.out (i + 1) _ _ (by have := Hlt.out; omega) ⟨Hlt.out, ?_, ?_, ?_, ?_, ?_, rfl⟩
      all_goals (simp only [go_sem, *]; try rfl)
    · have hil : i = r.items.length := by omega
      rw [hil] at e5
      have h1 : decide ((i : Int) ≤ (r.items.length : Int) - 1) = false := by simp; omega
      clear hlt hi hil
      repeat' first
        | apply x_seq | apply x_skip | apply x_block | apply x_exit | apply x_ret | apply x_ops_nil | apply p_blk | apply p_exit_it | apply p_exit_hit | apply p_ret_it | apply p_ret_blk | apply p_panic_it | apply p_panic_blk | apply p_end
        | (apply p_exit_miss; (focus rfl))
        | (apply x_region; simp only [List.toList_toArray])
        | (apply x_step0; (focus rfl); (focus (simp only [go_sem, *]; (try rfl); done)); (focus rfl); simp only [putA])
        | (apply x_panic; (focus (simp only [go_sem, *]; (try rfl); done)); (focus rfl); (focus (simp only [go_sem, *]; (try rfl); done)))
        | (apply x_step; (iterate 2 (focus (simp only [go_sem, *]; (try rfl); done))); (focus rfl); simp only [putA])
        | (apply x_unwanted; (focus (simp only [go_sem, *]; (try rfl); done)); (focus rfl); simp only [putA])
        | (apply x_condT; (focus (simp only [go_sem, *]; (try rfl); done)))
        | (apply x_condF; (focus (simp only [go_sem, *]; (try rfl); done)))
        | (apply x_guardS; (focus rfl); (fail_if_success (focus (show _ = some true; (focus (simp only [go_sem, *]; (try rfl); done))))); (focus (simp only [go_sem, *]; (try rfl); done)); all_goals (intro hb; try simp only [Bool.not_eq_true', Bool.not_eq_false'] at hb))
        | (apply x_condS; (focus (simp only [go_sem, *]; (try rfl); done)); all_goals (intro hb; try simp only [Bool.not_eq_true', Bool.not_eq_false'] at hb))
      (apply f_ret; iterate 7 (focus (simp only [go_sem, *, Tryz.results39]; (try rfl); done)))
      exact h
def longS (r : Rec) : Int × Int := if checkB r then (tmz r.items r.items.length, 0) else (0, 520)
set_option maxHeartbeats 2000000 in
theorem refLong (w0 : World) (S : List Blk) (r : Rec) (hm : (r.items.length : Int) < 9223372036854775807) (R : AOut → List Blk → Prop) (h : R (.ret (.tup [.int .i64 (longS r).1, .int .i64 (longS r).2])) S) : ACall Tryz.prog w0 12 [r.av] S R := by
  have hck := fun S' => refCheck w0 S' r
  unfold longS at h
  cases hc : checkB r with
  | false =>
    simp only [hc, Bool.false_eq_true, if_false] at h hck
    clear hm
    unfold Rec.av at hck ⊢
    replace hck := Lib.hid hck
    refine enter Tryz.func12 rfl (by decide +kernel) (by rw [Tryz.ntmps12]; simp) (by rw [Tryz.ntmps12]; decide) (fun hO => ?_); rw [Tryz.ntmps12]
    repeat' first
      | apply x_seq | apply x_skip | apply x_block | apply x_exit | apply x_ret | apply x_ops_nil | apply p_blk | apply p_exit_it | apply p_exit_hit | apply p_ret_it | apply p_ret_blk | apply p_panic_it | apply p_panic_blk | apply p_end
      | (apply p_exit_miss; (focus rfl))
      | (apply x_region; simp only [List.toList_toArray])
      | (apply x_step0; (focus rfl); (focus (simp only [go_sem, *]; (try rfl); done)); (focus rfl); simp only [putA])
      | (apply x_callA []; (focus (simp only [go_sem, *]; (try rfl); done)); (focus rfl); (focus (simp only [go_sem, *]; (try rfl); done)); (focus rfl); (iterate 2 (focus (simp only [go_sem, *]; (try rfl); done))); (first | (apply hck.out)); simp only [afterCall, putA])
      | (apply x_panic; (focus (simp only [go_sem, *]; (try rfl); done)); (focus rfl); (focus (simp only [go_sem, *]; (try rfl); done)))
      | (apply x_step; (iterate 2 (focus (simp only [go_sem, *]; (try rfl); done))); (focus rfl); simp only [putA])
      | (apply x_unwanted; (focus (simp only [go_sem, *]; (try rfl); done)); (focus rfl); simp only [putA])
      | (apply x_condT; (focus (simp only [go_sem, *]; (try rfl); done)))
      | (apply x_condF; (focus (simp only [go_sem, *]; (try rfl); done)))
      | (apply x_guardS; (focus rfl); (fail_if_success (focus (show _ = some true; (focus (simp only [go_sem, *]; (try rfl); done))))); (focus (simp only [go_sem, *]; (try rfl); done)); all_goals (intro hb; try simp only [Bool.not_eq_true', Bool.not_eq_false'] at hb))
      | (apply x_condS; (focus (simp only [go_sem, *]; (try rfl); done)); all_goals (intro hb; try simp only [Bool.not_eq_true', Bool.not_eq_false'] at hb))
    (apply f_ret; iterate 7 (focus (simp only [go_sem, *, Tryz.results12]; (try rfl); done)))
    exact h
  | true =>
    simp only [hc, if_true] at h hck
    have ht := Lib.hid (fun S' => refTime w0 S' r (waits_of hc))
    have q1 : IntKind.i64.wrap ((r.items.length : Int) - 1) = (r.items.length : Int) - 1 := IntWalk.i64_in _ (by omega)
    clear hm
    unfold Rec.av at hck ht ⊢
    replace hck := Lib.hid hck
    refine enter Tryz.func12 rfl (by decide +kernel) (by rw [Tryz.ntmps12]; simp) (by rw [Tryz.ntmps12]; decide) (fun hO => ?_); rw [Tryz.ntmps12]
    repeat' first
      | apply x_seq | apply x_skip | apply x_block | apply x_exit | apply x_ret | apply x_ops_nil | apply p_blk | apply p_exit_it | apply p_exit_hit | apply p_ret_it | apply p_ret_blk | apply p_panic_it | apply p_panic_blk | apply p_end
      | (apply p_exit_miss; (focus rfl))
      | (apply x_region; simp only [List.toList_toArray])
      | (apply x_step0; (focus rfl); (focus (simp only [go_sem, *]; (try rfl); done)); (focus rfl); simp only [putA])
      | (apply x_callA []; (focus (simp only [go_sem, *]; (try rfl); done)); (focus rfl); (focus (simp only [go_sem, *]; (try rfl); done)); (focus rfl); (iterate 2 (focus (simp only [go_sem, *]; (try rfl); done))); (first | (apply hck.out) | (apply ht.out)); simp only [afterCall, putA])
      | (apply x_panic; (focus (simp only [go_sem, *]; (try rfl); done)); (focus rfl); (focus (simp only [go_sem, *]; (try rfl); done)))
      | (apply x_step; (iterate 2 (focus (simp only [go_sem, *]; (try rfl); done))); (focus rfl); simp only [putA])
      | (apply x_unwanted; (focus (simp only [go_sem, *]; (try rfl); done)); (focus rfl); simp only [putA])
      | (apply x_condT; (focus (simp only [go_sem, *]; (try rfl); done)))
      | (apply x_condF; (focus (simp only [go_sem, *]; (try rfl); done)))
      | (apply x_guardS; (focus rfl); (fail_if_success (focus (show _ = some true; (focus (simp only [go_sem, *]; (try rfl); done))))); (focus (simp only [go_sem, *]; (try rfl); done)); all_goals (intro hb; try simp only [Bool.not_eq_true', Bool.not_eq_false'] at hb))
      | (apply x_condS; (focus (simp only [go_sem, *]; (try rfl); done)); all_goals (intro hb; try simp only [Bool.not_eq_true', Bool.not_eq_false'] at hb))
    (apply f_ret; iterate 7 (focus (simp only [go_sem, *, Tryz.results12]; (try rfl); done)))
    exact h
end Go.Proofs.YtnndmokndgnidaaGreatDoor
namespace Go.Proofs.YtnndmokndgnidaaGreatDoor
open Go Go.Fen
set_option linter.unusedSimpArgs false
set_option linter.unusedVariables false
attribute [local irreducible] RunX WP ACall AnyP OpA ProtL
set_option maxRecDepth 8000
set_option maxHeartbeats 8000000 in
theorem refCut (w0 : World) (S : List Blk) (r : Rec) (f t : Int) (R : AOut → List Blk → Prop) (h : R (.ret (resAV (cutS r f t))) S) :
    ACall Tryz.prog w0 21 [r.av, .int .i64 f, .int .i64 t] S R := by
  have hck := fun S' => refCheck w0 S' r
  unfold cutS at h
  unfold resAV at h
  cases hc : checkB r with
  | false =>
    simp only [hc, Bool.false_eq_true, if_false] at h hck
    unfold Rec.av zeroR at h
    unfold Rec.av at hck ⊢
    replace hck := Lib.hid hck
    refine enter Tryz.func21 rfl (by decide +kernel) (by rw [Tryz.ntmps21]; simp) (by rw [Tryz.ntmps21]; decide) (fun hO => ?_); rw [Tryz.ntmps21]
    repeat' first
      | apply x_seq | apply x_skip | apply x_block | apply x_exit | apply x_ret | apply x_ops_nil | apply p_blk | apply p_exit_it | apply p_exit_hit | apply p_ret_it | apply p_ret_blk | apply p_panic_it | apply p_panic_blk | apply p_end
      | (apply p_exit_miss; (focus rfl))
      | (apply x_region; simp only [List.toList_toArray])
      | (apply x_step0; (focus rfl); (focus (simp only [go_sem, *]; (try rfl); done)); (focus rfl); simp only [putA])
      | (apply x_callA []; (focus (simp only [go_sem, *]; (try rfl); done)); (focus rfl); (focus (simp only [go_sem, *]; (try rfl); done)); (focus rfl); (iterate 2 (focus (simp only [go_sem, *]; (try rfl); done))); (first | (apply hck.out)); simp only [afterCall, putA])
      | (apply x_panic; (focus (simp only [go_sem, *]; (try rfl); done)); (focus rfl); (focus (simp only [go_sem, *]; (try rfl); done)))
      | (apply x_step; (iterate 2 (focus (simp only [go_sem, *]; (try rfl); done))); (focus rfl); simp only [putA])
      | (apply x_unwanted; (focus (simp only [go_sem, *]; (try rfl); done)); (focus rfl); simp only [putA])
      | (apply x_condT; (focus (simp only [go_sem, *]; (try rfl); done)))
      | (apply x_condF; (focus (simp only [go_sem, *]; (try rfl); done)))
      | (apply x_guardS; (focus rfl); (fail_if_success (focus (show _ = some true; (focus (simp only [go_sem, *]; (try rfl); done))))); (focus (simp only [go_sem, *]; (try rfl); done)); all_goals (intro hb; try simp only [Bool.not_eq_true', Bool.not_eq_false'] at hb))
      | (apply x_condS; (focus (simp only [go_sem, *]; (try rfl); done)); all_goals (intro hb; try simp only [Bool.not_eq_true', Bool.not_eq_false'] at hb))
    (apply f_ret; iterate 7 (focus (simp only [go_sem, *, Tryz.results21]; (try rfl); done)))
    exact h
  | true =>
    have hw := waits_of hc
    simp only [hc, if_true] at h hck
    by_cases hft : f < 0 ∨ t < f
    · rw [if_pos hft] at h
      have d1 : (decide (f < 0) || decide (t < f)) = true := by simp; omega
      clear hft hw
      unfold Rec.av zeroR at h
      unfold Rec.av at hck ⊢
      replace hck := Lib.hid hck
      cases hf0 : decide (f < 0) with
      | true =>
        refine enter Tryz.func21 rfl (by decide +kernel) (by rw [Tryz.ntmps21]; simp) (by rw [Tryz.ntmps21]; decide) (fun hO => ?_); rw [Tryz.ntmps21]
        repeat' first
          | apply x_seq | apply x_skip | apply x_block | apply x_exit | apply x_ret | apply x_ops_nil | apply p_blk | apply p_exit_it | apply p_exit_hit | apply p_ret_it | apply p_ret_blk | apply p_panic_it | apply p_panic_blk | apply p_end
          | (apply p_exit_miss; (focus rfl))
          | (apply x_region; simp only [List.toList_toArray])
          | (apply x_step0; (focus rfl); (focus (simp only [go_sem, *]; (try rfl); done)); (focus rfl); simp only [putA])
          | (apply x_callA []; (focus (simp only [go_sem, *]; (try rfl); done)); (focus rfl); (focus (simp only [go_sem, *]; (try rfl); done)); (focus rfl); (iterate 2 (focus (simp only [go_sem, *]; (try rfl); done))); (first | (apply hck.out)); simp only [afterCall, putA])
          | (apply x_panic; (focus (simp only [go_sem, *]; (try rfl); done)); (focus rfl); (focus (simp only [go_sem, *]; (try rfl); done)))
          | (apply x_step; (iterate 2 (focus (simp only [go_sem, *]; (try rfl); done))); (focus rfl); simp only [putA])
          | (apply x_unwanted; (focus (simp only [go_sem, *]; (try rfl); done)); (focus rfl); simp only [putA])
          | (apply x_condT; (focus (simp only [go_sem, *]; (try rfl); done)))
          | (apply x_condF; (focus (simp only [go_sem, *]; (try rfl); done)))
          | (apply x_guardS; (focus rfl); (fail_if_success (focus (show _ = some true; (focus (simp only [go_sem, *]; (try rfl); done))))); (focus (simp only [go_sem, *]; (try rfl); done)); all_goals (intro hb; try simp only [Bool.not_eq_true', Bool.not_eq_false'] at hb))
          | (apply x_condS; (focus (simp only [go_sem, *]; (try rfl); done)); all_goals (intro hb; try simp only [Bool.not_eq_true', Bool.not_eq_false'] at hb))
        (apply f_ret; iterate 7 (focus (simp only [go_sem, *, Tryz.results21]; (try rfl); done)))
        exact h
      | false =>
        have d2 : decide (t < f) = true := by rw [hf0] at d1; simpa using d1
        clear d1
        refine enter Tryz.func21 rfl (by decide +kernel) (by rw [Tryz.ntmps21]; simp) (by rw [Tryz.ntmps21]; decide) (fun hO => ?_); rw [Tryz.ntmps21]
        repeat' first
          | apply x_seq | apply x_skip | apply x_block | apply x_exit | apply x_ret | apply x_ops_nil | apply p_blk | apply p_exit_it | apply p_exit_hit | apply p_ret_it | apply p_ret_blk | apply p_panic_it | apply p_panic_blk | apply p_end
          | (apply p_exit_miss; (focus rfl))
          | (apply x_region; simp only [List.toList_toArray])
          | (apply x_step0; (focus rfl); (focus (simp only [go_sem, *]; (try rfl); done)); (focus rfl); simp only [putA])
          | (apply x_callA []; (focus (simp only [go_sem, *]; (try rfl); done)); (focus rfl); (focus (simp only [go_sem, *]; (try rfl); done)); (focus rfl); (iterate 2 (focus (simp only [go_sem, *]; (try rfl); done))); (first | (apply hck.out)); simp only [afterCall, putA])
          | (apply x_panic; (focus (simp only [go_sem, *]; (try rfl); done)); (focus rfl); (focus (simp only [go_sem, *]; (try rfl); done)))
          | (apply x_step; (iterate 2 (focus (simp only [go_sem, *]; (try rfl); done))); (focus rfl); simp only [putA])
          | (apply x_unwanted; (focus (simp only [go_sem, *]; (try rfl); done)); (focus rfl); simp only [putA])
          | (apply x_condT; (focus (simp only [go_sem, *]; (try rfl); done)))
          | (apply x_condF; (focus (simp only [go_sem, *]; (try rfl); done)))
          | (apply x_guardS; (focus rfl); (fail_if_success (focus (show _ = some true; (focus (simp only [go_sem, *]; (try rfl); done))))); (focus (simp only [go_sem, *]; (try rfl); done)); all_goals (intro hb; try simp only [Bool.not_eq_true', Bool.not_eq_false'] at hb))
          | (apply x_condS; (focus (simp only [go_sem, *]; (try rfl); done)); all_goals (intro hb; try simp only [Bool.not_eq_true', Bool.not_eq_false'] at hb))
        (apply f_ret; iterate 7 (focus (simp only [go_sem, *, Tryz.results21]; (try rfl); done)))
        exact h
    · rw [if_neg hft] at h
      have e1 : (if t > f then t else f) = t := by split <;> omega
      rw [e1] at h
      have d1 : decide (f < 0) = false := by simp; omega
      have d2 : decide (t < f) = false := by simp; omega
      have hTb : ∀ k, 0 ≤ tmz r.items k ∧ tmz r.items k ≤ 1000000000 := fun k => by have := tmz_bd hw.2 k; have := hw.1; omega
      have Hft := Lib.hid hft
      have Hlen := Lib.hid hw.1
      have HTb := Lib.hid hTb
      have e00 : tmz r.items 0 = 0 := rfl
      obtain ⟨F, hF⟩ : ∃ F, F = cutL f t r.items 0 r.cols r.rows [] := ⟨_, rfl⟩
      rw [← hF] at h
      have hF0 : cutL f t (r.items.drop 0) (tmz r.items 0) r.cols r.rows [] = F := hF.symm
      have HF0 := Lib.hid hF0
      clear hTb hw hft hF hF0 e1
      unfold Rec.av at h
      unfold Rec.av at hck ⊢
      replace hck := Lib.hid hck
      refine enter Tryz.func21 rfl (by decide +kernel) (by rw [Tryz.ntmps21]; simp) (by rw [Tryz.ntmps21]; decide) (fun hO => ?_); rw [Tryz.ntmps21]
      repeat' first
        | apply x_seq | apply x_skip | apply x_block | apply x_exit | apply x_ret | apply x_ops_nil | apply p_blk | apply p_exit_it | apply p_exit_hit | apply p_ret_it | apply p_ret_blk | apply p_panic_it | apply p_panic_blk | apply p_end
        | (apply p_exit_miss; (focus rfl))
        | (apply x_region; simp only [List.toList_toArray])
        | (apply x_step0; (focus rfl); (focus (simp only [go_sem, *]; (try rfl); done)); (focus rfl); simp only [putA])
        | (apply x_callA []; (focus (simp only [go_sem, *]; (try rfl); done)); (focus rfl); (focus (simp only [go_sem, *]; (try rfl); done)); (focus rfl); (iterate 2 (focus (simp only [go_sem, *]; (try rfl); done))); (first | (apply hck.out)); simp only [afterCall, putA])
        | (apply x_panic; (focus (simp only [go_sem, *]; (try rfl); done)); (focus rfl); (focus (simp only [go_sem, *]; (try rfl); done)))
        | (apply x_step; (iterate 2 (focus (simp only [go_sem, *]; (try rfl); done))); (focus rfl); simp only [putA])
        | (apply x_unwanted; (focus (simp only [go_sem, *]; (try rfl); done)); (focus rfl); simp only [putA])
        | (apply x_condT; (focus (simp only [go_sem, *]; (try rfl); done)))
        | (apply x_condF; (focus (simp only [go_sem, *]; (try rfl); done)))
        | (apply x_guardS; (focus rfl); (fail_if_success (focus (show _ = some true; (focus (simp only [go_sem, *]; (try rfl); done))))); (focus (simp only [go_sem, *]; (try rfl); done)); all_goals (intro hb; try simp only [Bool.not_eq_true', Bool.not_eq_false'] at hb))
        | (apply x_condS; (focus (simp only [go_sem, *]; (try rfl); done)); all_goals (intro hb; try simp only [Bool.not_eq_true', Bool.not_eq_false'] at hb))
      refine x_thawC (a := S.length + 2) (j := 2) 29 5 (by (simp only [go_sem, *]; try rfl)) (by (simp only [go_sem, *]; try rfl)) (by decide) ?_
      simp only [go_sem, *]
      refine x_ind (fun (p : Nat × Int × Int × List It) env S' => p.1 ≤ r.items.length ∧ p.2.2.2.length ≤ p.1 ∧ cutL f t (r.items.drop p.1) (tmz r.items p.1) p.2.1 p.2.2.1 p.2.2.2 = F ∧ env 1000000 = .dfr [] ∧ env 1 = .int .i64 f ∧ env 2 = .int .i64 t ∧ env 3 = .own S.length 0 ∧ env 6 = .own (S.length + 1) 0 ∧ env 8 = .own (S.length + 2) 0 ∧ env 9 = .int .i64 (tmz r.items p.1) ∧ env 10 = .int .i64 (p.1 : Int) ∧
        S' = S ++ [Blk.cells [.int .i64 r.cols, .int .i64 r.rows, .sval false (r.items.map It.av)], Blk.cells [.int .i64 0, .int .i64 0, .snil], Blk.cells [.int .i64 p.2.1, .int .i64 p.2.2.1, .sown (S.length + 3) p.2.2.2.length p.2.2.2.length], .arr 29 5 0 p.2.2.2.length (p.2.2.2.map It.av)]) (fun p => r.items.length - p.1) (0, r.cols, r.rows, []) ?_ ?_
      · exact ⟨Nat.zero_le _, Nat.le_refl _, HF0.out, by (simp only [go_sem, *]; try rfl), by (simp only [go_sem, *]; try rfl), by (simp only [go_sem, *]; try rfl), by (simp only [go_sem, *]; try rfl), by (simp only [go_sem, *]; try rfl), by (simp only [go_sem, *]; try rfl), by (simp only [go_sem, *]; try rfl), by (simp only [go_sem, *]; try rfl), rfl⟩
      · clear e00
        rintro ⟨i, c, rr, o⟩ env S' ⟨hi, ho, hcut, e0, g1, g2, g3, g6, g8, g9, g10, rfl⟩ IH
        have HI := Lib.hid IH
        clear IH
        simp only at hi ho hcut g9 g10 ⊢
        by_cases hlt : i < r.items.length
        · obtain ⟨x, hx⟩ : ∃ x, r.items[i]? = some x := ⟨_, List.getElem?_eq_getElem hlt⟩
          have h1 : decide ((i : Int) < (r.items.length : Int)) = true := by simpa using hlt
          have hii : (i : Int) < (r.items.length : Int) := by omega
          have hwr : IntKind.i64.wrap ((i : Int) + 1) = (i : Int) + 1 := IntWalk.i64_in _ (by have := Hlen.out; omega)
          have q1 : IntKind.i64.wrap (tmz r.items i + x.wait) = tmz r.items (i + 1) := by rw [← tmz_succ hx]; exact IntWalk.i64_in _ (by have := HTb.out (i + 1); omega)
          rw [cutL_step hx] at hcut
          have hb : (o.length + 1) * 48 ≤ 140737488355328 := by have := Hlen.out; omega
          have Hlt := Lib.hid hlt
          have Ho := Lib.hid ho
          by_cases a1 : tmz r.items (i + 1) < f
          · have d3 : decide (tmz r.items (i + 1) < f) = true := by simpa using a1
            rw [if_neg (by have := Hft.out; omega)] at hcut
            by_cases k3 : x.kind = 3
            · rw [if_pos ⟨a1, k3⟩] at hcut
              have d4 : (x.kind == 3) = true := by simpa using k3
              have Hcut := Lib.hid hcut
              clear hlt hi a1 k3 ho hcut
              repeat' first
                | apply x_seq | apply x_skip | apply x_block | apply x_exit | apply x_ret | apply x_ops_nil | apply p_blk | apply p_exit_it | apply p_exit_hit | apply p_ret_it | apply p_ret_blk | apply p_panic_it | apply p_panic_blk | apply p_end
                | (apply p_exit_miss; (focus rfl))
                | (apply x_region; simp only [List.toList_toArray])
                | (apply x_step0; (focus rfl); (focus (simp only [go_sem, *, It.av]; (try rfl); done)); (focus rfl); simp only [putA])
                | (apply x_panic; (focus (simp only [go_sem, *, It.av]; (try rfl); done)); (focus rfl); (focus (simp only [go_sem, *, It.av]; (try rfl); done)))
                | (apply x_step; (iterate 2 (focus (simp only [go_sem, *, It.av]; (try rfl); done))); (focus rfl); simp only [putA])
                | (apply x_unwanted; (focus (simp only [go_sem, *, It.av]; (try rfl); done)); (focus rfl); simp only [putA])
                | (apply x_condT; (focus (simp only [go_sem, *, It.av]; (try rfl); done)))
                | (apply x_condF; (focus (simp only [go_sem, *, It.av]; (try rfl); done)))
                | (apply x_guardS; (focus rfl); (fail_if_success (focus (show _ = some true; (focus (simp only [go_sem, *, It.av]; (try rfl); done))))); (focus (simp only [go_sem, *, It.av]; (try rfl); done)); all_goals (intro hb; try simp only [Bool.not_eq_true', Bool.not_eq_false'] at hb))
                | (apply x_condS; (focus (simp only [go_sem, *, It.av]; (try rfl); done)); all_goals (intro hb; try simp only [Bool.not_eq_true', Bool.not_eq_false'] at hb))
                | (apply d_draw; (focus exact mixed); (focus ((simp only [List.size_toArray, List.length_cons, List.length_nil, Nat.reduceAdd]; try rfl); done)))
                | (apply d_done; (focus decide +kernel))
                | ((first | (apply d_take 0; (focus decide +kernel)) | (apply d_take 1; (focus decide +kernel)) | (apply d_take 2; (focus decide +kernel)) | (apply d_take 3; (focus decide +kernel)) | (apply d_take 4; (focus decide +kernel)) | (apply d_take 5; (focus decide +kernel)) | (apply d_take 6; (focus decide +kernel)) | (apply d_take 7; (focus decide +kernel)) | (apply d_take 8; (focus decide +kernel)) | (apply d_take 9; (focus decide +kernel)) | (apply d_take 10; (focus decide +kernel)) | (apply d_take 11; (focus decide +kernel)) | (apply d_take 12; (focus decide +kernel)) | (apply d_take 13; (focus decide +kernel)) | (apply d_take 14; (focus decide +kernel)) | (apply d_take 15; (focus decide +kernel)) | (apply d_take 16; (focus decide +kernel)) | (apply d_take 17; (focus decide +kernel))); (focus (first | exact qds_FPost | exact qds_RPost | exact qds_YB | assumption)); (focus rfl); (iterate 3 (focus (simp only [go_sem, *, It.av]; (try rfl); done))); (focus rfl); (focus (simp only [go_sem, *, It.av]; (try rfl); done)); simp only [putA])
                | ((first | (apply d_unw 0; (focus decide +kernel)) | (apply d_unw 1; (focus decide +kernel)) | (apply d_unw 2; (focus decide +kernel)) | (apply d_unw 3; (focus decide +kernel)) | (apply d_unw 4; (focus decide +kernel)) | (apply d_unw 5; (focus decide +kernel)) | (apply d_unw 6; (focus decide +kernel)) | (apply d_unw 7; (focus decide +kernel)) | (apply d_unw 8; (focus decide +kernel)) | (apply d_unw 9; (focus decide +kernel)) | (apply d_unw 10; (focus decide +kernel)) | (apply d_unw 11; (focus decide +kernel)) | (apply d_unw 12; (focus decide +kernel)) | (apply d_unw 13; (focus decide +kernel)) | (apply d_unw 14; (focus decide +kernel)) | (apply d_unw 15; (focus decide +kernel)) | (apply d_unw 16; (focus decide +kernel)) | (apply d_unw 17; (focus decide +kernel))); (focus (first | exact qds_FPost | exact qds_RPost | exact qds_YB | assumption)); (focus rfl); (iterate 2 (focus (simp only [go_sem, *, It.av]; (try rfl); done))); (focus rfl); simp only [putA])
                | (first | (apply d_one 0; (focus decide +kernel)) | (apply d_one 1; (focus decide +kernel)) | (apply d_one 2; (focus decide +kernel)) | (apply d_one 3; (focus decide +kernel)) | (apply d_one 4; (focus decide +kernel)) | (apply d_one 5; (focus decide +kernel)) | (apply d_one 6; (focus decide +kernel)) | (apply d_one 7; (focus decide +kernel)) | (apply d_one 8; (focus decide +kernel)) | (apply d_one 9; (focus decide +kernel)) | (apply d_one 10; (focus decide +kernel)) | (apply d_one 11; (focus decide +kernel)) | (apply d_one 12; (focus decide +kernel)) | (apply d_one 13; (focus decide +kernel)) | (apply d_one 14; (focus decide +kernel)) | (apply d_one 15; (focus decide +kernel)) | (apply d_one 16; (focus decide +kernel)) | (apply d_one 17; (focus decide +kernel)))
                | (apply o_step; (iterate 3 (focus (simp only [go_sem, *, It.av]; (try rfl); done))); (focus rfl); simp only [putA])
                | (apply o_unw; (iterate 2 (focus (simp only [go_sem, *, It.av]; (try rfl); done))); (focus rfl); simp only [putA])
                | apply pr_nil | apply pr_same | apply pr_go | apply pl_nil | apply pl_none | (apply pl_skip; (focus decide +kernel)) | (apply pl_one; (focus (simp only [go_sem, *, It.av]; (try rfl); done)))
              have hcut := Hcut.out
              refine x_keep hO 4 [1, 2, 3, 6, 8, 9, 10] rfl (by (simp only [go_sem, *]; try rfl)) (by (simp only [go_sem, *]; try rfl)) (by (simp only [go_sem, *]; try rfl)) ?_
              simp only [List.take_succ_cons, List.take_zero]
              refine HI.out (i + 1, x.cols, x.rows, o) _ _ (by have := Hlt.out; simp only; omega) ⟨Hlt.out, by have := Ho.out; simp only; omega, hcut, ?_, ?_, ?_, ?_, ?_, ?_, ?_, ?_, rfl⟩
              all_goals (simp only [go_sem, *]; try rfl)
            · rw [if_neg (fun h => k3 h.2), if_neg (by omega)] at hcut
              have d4 : (x.kind == 3) = false := by simpa using k3
              have Hcut := Lib.hid hcut
              clear hlt hi a1 k3 ho hcut
              repeat' first
                | apply x_seq | apply x_skip | apply x_block | apply x_exit | apply x_ret | apply x_ops_nil | apply p_blk | apply p_exit_it | apply p_exit_hit | apply p_ret_it | apply p_ret_blk | apply p_panic_it | apply p_panic_blk | apply p_end
                | (apply p_exit_miss; (focus rfl))
                | (apply x_region; simp only [List.toList_toArray])
                | (apply x_step0; (focus rfl); (focus (simp only [go_sem, *, It.av]; (try rfl); done)); (focus rfl); simp only [putA])
                | (apply x_panic; (focus (simp only [go_sem, *, It.av]; (try rfl); done)); (focus rfl); (focus (simp only [go_sem, *, It.av]; (try rfl); done)))
                | (apply x_step; (iterate 2 (focus (simp only [go_sem, *, It.av]; (try rfl); done))); (focus rfl); simp only [putA])
                | (apply x_unwanted; (focus (simp only [go_sem, *, It.av]; (try rfl); done)); (focus rfl); simp only [putA])
                | (apply x_condT; (focus (simp only [go_sem, *, It.av]; (try rfl); done)))
                | (apply x_condF; (focus (simp only [go_sem, *, It.av]; (try rfl); done)))
                | (apply x_guardS; (focus rfl); (fail_if_success (focus (show _ = some true; (focus (simp only [go_sem, *, It.av]; (try rfl); done))))); (focus (simp only [go_sem, *, It.av]; (try rfl); done)); all_goals (intro hb; try simp only [Bool.not_eq_true', Bool.not_eq_false'] at hb))
                | (apply x_condS; (focus (simp only [go_sem, *, It.av]; (try rfl); done)); all_goals (intro hb; try simp only [Bool.not_eq_true', Bool.not_eq_false'] at hb))
                | (apply d_draw; (focus exact mixed); (focus ((simp only [List.size_toArray, List.length_cons, List.length_nil, Nat.reduceAdd]; try rfl); done)))
                | (apply d_done; (focus decide +kernel))
                | ((first | (apply d_take 0; (focus decide +kernel)) | (apply d_take 1; (focus decide +kernel)) | (apply d_take 2; (focus decide +kernel)) | (apply d_take 3; (focus decide +kernel)) | (apply d_take 4; (focus decide +kernel)) | (apply d_take 5; (focus decide +kernel)) | (apply d_take 6; (focus decide +kernel)) | (apply d_take 7; (focus decide +kernel)) | (apply d_take 8; (focus decide +kernel)) | (apply d_take 9; (focus decide +kernel)) | (apply d_take 10; (focus decide +kernel)) | (apply d_take 11; (focus decide +kernel)) | (apply d_take 12; (focus decide +kernel)) | (apply d_take 13; (focus decide +kernel)) | (apply d_take 14; (focus decide +kernel)) | (apply d_take 15; (focus decide +kernel)) | (apply d_take 16; (focus decide +kernel)) | (apply d_take 17; (focus decide +kernel))); (focus (first | exact qds_FPost | exact qds_RPost | exact qds_YB | assumption)); (focus rfl); (iterate 3 (focus (simp only [go_sem, *, It.av]; (try rfl); done))); (focus rfl); (focus (simp only [go_sem, *, It.av]; (try rfl); done)); simp only [putA])
                | ((first | (apply d_unw 0; (focus decide +kernel)) | (apply d_unw 1; (focus decide +kernel)) | (apply d_unw 2; (focus decide +kernel)) | (apply d_unw 3; (focus decide +kernel)) | (apply d_unw 4; (focus decide +kernel)) | (apply d_unw 5; (focus decide +kernel)) | (apply d_unw 6; (focus decide +kernel)) | (apply d_unw 7; (focus decide +kernel)) | (apply d_unw 8; (focus decide +kernel)) | (apply d_unw 9; (focus decide +kernel)) | (apply d_unw 10; (focus decide +kernel)) | (apply d_unw 11; (focus decide +kernel)) | (apply d_unw 12; (focus decide +kernel)) | (apply d_unw 13; (focus decide +kernel)) | (apply d_unw 14; (focus decide +kernel)) | (apply d_unw 15; (focus decide +kernel)) | (apply d_unw 16; (focus decide +kernel)) | (apply d_unw 17; (focus decide +kernel))); (focus (first | exact qds_FPost | exact qds_RPost | exact qds_YB | assumption)); (focus rfl); (iterate 2 (focus (simp only [go_sem, *, It.av]; (try rfl); done))); (focus rfl); simp only [putA])
                | (first | (apply d_one 0; (focus decide +kernel)) | (apply d_one 1; (focus decide +kernel)) | (apply d_one 2; (focus decide +kernel)) | (apply d_one 3; (focus decide +kernel)) | (apply d_one 4; (focus decide +kernel)) | (apply d_one 5; (focus decide +kernel)) | (apply d_one 6; (focus decide +kernel)) | (apply d_one 7; (focus decide +kernel)) | (apply d_one 8; (focus decide +kernel)) | (apply d_one 9; (focus decide +kernel)) | (apply d_one 10; (focus decide +kernel)) | (apply d_one 11; (focus decide +kernel)) | (apply d_one 12; (focus decide +kernel)) | (apply d_one 13; (focus decide +kernel)) | (apply d_one 14; (focus decide +kernel)) | (apply d_one 15; (focus decide +kernel)) | (apply d_one 16; (focus decide +kernel)) | (apply d_one 17; (focus decide +kernel)))
                | (apply o_step; (iterate 3 (focus (simp only [go_sem, *, It.av]; (try rfl); done))); (focus rfl); simp only [putA])
                | (apply o_unw; (iterate 2 (focus (simp only [go_sem, *, It.av]; (try rfl); done))); (focus rfl); simp only [putA])
                | apply pr_nil | apply pr_same | apply pr_go | apply pl_nil | apply pl_none | (apply pl_skip; (focus decide +kernel)) | (apply pl_one; (focus (simp only [go_sem, *, It.av]; (try rfl); done)))
              have hcut := Hcut.out
              refine x_keep hO 4 [1, 2, 3, 6, 8, 9, 10] rfl (by (simp only [go_sem, *]; try rfl)) (by (simp only [go_sem, *]; try rfl)) (by (simp only [go_sem, *]; try rfl)) ?_
              simp only [List.take_succ_cons, List.take_zero]
              refine HI.out (i + 1, c, rr, o) _ _ (by have := Hlt.out; simp only; omega) ⟨Hlt.out, by have := Ho.out; simp only; omega, hcut, ?_, ?_, ?_, ?_, ?_, ?_, ?_, ?_, rfl⟩
              all_goals (simp only [go_sem, *]; try rfl)
          · have d3 : decide (tmz r.items (i + 1) < f) = false := by simpa using a1
            by_cases a2 : t ≤ tmz r.items (i + 1)
            · have d4 : decide (t ≤ tmz r.items (i + 1)) = true := by simpa using a2
              rw [if_pos a2] at hcut
              rw [← hcut] at h
              clear hlt hi a1 a2 ho hcut
              simp only at h
              repeat' first
                | apply x_seq | apply x_skip | apply x_block | apply x_exit | apply x_ret | apply x_ops_nil | apply p_blk | apply p_exit_it | apply p_exit_hit | apply p_ret_it | apply p_ret_blk | apply p_panic_it | apply p_panic_blk | apply p_end
                | (apply p_exit_miss; (focus rfl))
                | (apply x_region; simp only [List.toList_toArray])
                | (apply x_step0; (focus rfl); (focus (simp only [go_sem, *, It.av]; (try rfl); done)); (focus rfl); simp only [putA])
                | (apply x_panic; (focus (simp only [go_sem, *, It.av]; (try rfl); done)); (focus rfl); (focus (simp only [go_sem, *, It.av]; (try rfl); done)))
                | (apply x_step; (iterate 2 (focus (simp only [go_sem, *, It.av]; (try rfl); done))); (focus rfl); simp only [putA])
                | (apply x_unwanted; (focus (simp only [go_sem, *, It.av]; (try rfl); done)); (focus rfl); simp only [putA])
                | (apply x_condT; (focus (simp only [go_sem, *, It.av]; (try rfl); done)))
                | (apply x_condF; (focus (simp only [go_sem, *, It.av]; (try rfl); done)))
                | (apply x_guardS; (focus rfl); (fail_if_success (focus (show _ = some true; (focus (simp only [go_sem, *, It.av]; (try rfl); done))))); (focus (simp only [go_sem, *, It.av]; (try rfl); done)); all_goals (intro hb; try simp only [Bool.not_eq_true', Bool.not_eq_false'] at hb))
                | (apply x_condS; (focus (simp only [go_sem, *, It.av]; (try rfl); done)); all_goals (intro hb; try simp only [Bool.not_eq_true', Bool.not_eq_false'] at hb))
                | (apply d_draw; (focus exact mixed); (focus ((simp only [List.size_toArray, List.length_cons, List.length_nil, Nat.reduceAdd]; try rfl); done)))
                | (apply d_done; (focus decide +kernel))
                | ((first | (apply d_take 0; (focus decide +kernel)) | (apply d_take 1; (focus decide +kernel)) | (apply d_take 2; (focus decide +kernel)) | (apply d_take 3; (focus decide +kernel)) | (apply d_take 4; (focus decide +kernel)) | (apply d_take 5; (focus decide +kernel)) | (apply d_take 6; (focus decide +kernel)) | (apply d_take 7; (focus decide +kernel)) | (apply d_take 8; (focus decide +kernel)) | (apply d_take 9; (focus decide +kernel)) | (apply d_take 10; (focus decide +kernel)) | (apply d_take 11; (focus decide +kernel)) | (apply d_take 12; (focus decide +kernel)) | (apply d_take 13; (focus decide +kernel)) | (apply d_take 14; (focus decide +kernel)) | (apply d_take 15; (focus decide +kernel)) | (apply d_take 16; (focus decide +kernel)) | (apply d_take 17; (focus decide +kernel))); (focus (first | exact qds_FPost | exact qds_RPost | exact qds_YB | assumption)); (focus rfl); (iterate 3 (focus (simp only [go_sem, *, It.av]; (try rfl); done))); (focus rfl); (focus (simp only [go_sem, *, It.av]; (try rfl); done)); simp only [putA])
                | ((first | (apply d_unw 0; (focus decide +kernel)) | (apply d_unw 1; (focus decide +kernel)) | (apply d_unw 2; (focus decide +kernel)) | (apply d_unw 3; (focus decide +kernel)) | (apply d_unw 4; (focus decide +kernel)) | (apply d_unw 5; (focus decide +kernel)) | (apply d_unw 6; (focus decide +kernel)) | (apply d_unw 7; (focus decide +kernel)) | (apply d_unw 8; (focus decide +kernel)) | (apply d_unw 9; (focus decide +kernel)) | (apply d_unw 10; (focus decide +kernel)) | (apply d_unw 11; (focus decide +kernel)) | (apply d_unw 12; (focus decide +kernel)) | (apply d_unw 13; (focus decide +kernel)) | (apply d_unw 14; (focus decide +kernel)) | (apply d_unw 15; (focus decide +kernel)) | (apply d_unw 16; (focus decide +kernel)) | (apply d_unw 17; (focus decide +kernel))); (focus (first | exact qds_FPost | exact qds_RPost | exact qds_YB | assumption)); (focus rfl); (iterate 2 (focus (simp only [go_sem, *, It.av]; (try rfl); done))); (focus rfl); simp only [putA])
                | (first | (apply d_one 0; (focus decide +kernel)) | (apply d_one 1; (focus decide +kernel)) | (apply d_one 2; (focus decide +kernel)) | (apply d_one 3; (focus decide +kernel)) | (apply d_one 4; (focus decide +kernel)) | (apply d_one 5; (focus decide +kernel)) | (apply d_one 6; (focus decide +kernel)) | (apply d_one 7; (focus decide +kernel)) | (apply d_one 8; (focus decide +kernel)) | (apply d_one 9; (focus decide +kernel)) | (apply d_one 10; (focus decide +kernel)) | (apply d_one 11; (focus decide +kernel)) | (apply d_one 12; (focus decide +kernel)) | (apply d_one 13; (focus decide +kernel)) | (apply d_one 14; (focus decide +kernel)) | (apply d_one 15; (focus decide +kernel)) | (apply d_one 16; (focus decide +kernel)) | (apply d_one 17; (focus decide +kernel)))
                | (apply o_step; (iterate 3 (focus (simp only [go_sem, *, It.av]; (try rfl); done))); (focus rfl); simp only [putA])
                | (apply o_unw; (iterate 2 (focus (simp only [go_sem, *, It.av]; (try rfl); done))); (focus rfl); simp only [putA])
                | apply pr_nil | apply pr_same | apply pr_go | apply pl_nil | apply pl_none | (apply pl_skip; (focus decide +kernel)) | (apply pl_one; (focus (simp only [go_sem, *, It.av]; (try rfl); done)))
              (apply f_ret; iterate 7 (focus (simp only [go_sem, *, Tryz.results21]; (try rfl); done)))
              exact h
            · have d4 : decide (t ≤ tmz r.items (i + 1)) = false := by simp; omega
              rw [if_neg a2, if_neg (by omega), if_pos (by omega)] at hcut
              have q2 : IntKind.i64.wrap (tmz r.items (i + 1) - f) = tmz r.items (i + 1) - f := IntWalk.i64_in _ (by have := HTb.out (i + 1); have := Hft.out; omega)
              have Hcut := Lib.hid hcut
              clear hlt hi a1 a2 ho hcut
              cases ho0 : ((o.length : Int) == 0) with
              | true =>
                have he : o = [] := by
                  have : o.length = 0 := by simpa using ho0
                  exact List.length_eq_zero_iff.1 this
                repeat' first
                  | apply x_seq | apply x_skip | apply x_block | apply x_exit | apply x_ret | apply x_ops_nil | apply p_blk | apply p_exit_it | apply p_exit_hit | apply p_ret_it | apply p_ret_blk | apply p_panic_it | apply p_panic_blk | apply p_end
                  | (apply p_exit_miss; (focus rfl))
                  | (apply x_region; simp only [List.toList_toArray])
                  | (apply x_step0; (focus rfl); (focus (simp only [go_sem, *, It.av]; (try rfl); done)); (focus rfl); simp only [putA])
                  | (apply x_panic; (focus (simp only [go_sem, *, It.av]; (try rfl); done)); (focus rfl); (focus (simp only [go_sem, *, It.av]; (try rfl); done)))
                  | (apply x_step; (iterate 2 (focus (simp only [go_sem, *, It.av]; (try rfl); done))); (focus rfl); simp only [putA])
                  | (apply x_unwanted; (focus (simp only [go_sem, *, It.av]; (try rfl); done)); (focus rfl); simp only [putA])
                  | (apply x_condT; (focus (simp only [go_sem, *, It.av]; (try rfl); done)))
                  | (apply x_condF; (focus (simp only [go_sem, *, It.av]; (try rfl); done)))
                  | (apply x_guardS; (focus rfl); (fail_if_success (focus (show _ = some true; (focus (simp only [go_sem, *, It.av]; (try rfl); done))))); (focus (simp only [go_sem, *, It.av]; (try rfl); done)); all_goals (intro hb; try simp only [Bool.not_eq_true', Bool.not_eq_false'] at hb))
                  | (apply x_condS; (focus (simp only [go_sem, *, It.av]; (try rfl); done)); all_goals (intro hb; try simp only [Bool.not_eq_true', Bool.not_eq_false'] at hb))
                  | (apply d_draw; (focus exact mixed); (focus ((simp only [List.size_toArray, List.length_cons, List.length_nil, Nat.reduceAdd]; try rfl); done)))
                  | (apply d_done; (focus decide +kernel))
                  | ((first | (apply d_take 0; (focus decide +kernel)) | (apply d_take 1; (focus decide +kernel)) | (apply d_take 2; (focus decide +kernel)) | (apply d_take 3; (focus decide +kernel)) | (apply d_take 4; (focus decide +kernel)) | (apply d_take 5; (focus decide +kernel)) | (apply d_take 6; (focus decide +kernel)) | (apply d_take 7; (focus decide +kernel)) | (apply d_take 8; (focus decide +kernel)) | (apply d_take 9; (focus decide +kernel)) | (apply d_take 10; (focus decide +kernel)) | (apply d_take 11; (focus decide +kernel)) | (apply d_take 12; (focus decide +kernel)) | (apply d_take 13; (focus decide +kernel)) | (apply d_take 14; (focus decide +kernel)) | (apply d_take 15; (focus decide +kernel)) | (apply d_take 16; (focus decide +kernel)) | (apply d_take 17; (focus decide +kernel))); (focus (first | exact qds_FPost | exact qds_RPost | exact qds_YB | assumption)); (focus rfl); (iterate 3 (focus (simp only [go_sem, *, It.av]; (try rfl); done))); (focus rfl); (focus (simp only [go_sem, *, It.av]; (try rfl); done)); simp only [putA])
                  | ((first | (apply d_unw 0; (focus decide +kernel)) | (apply d_unw 1; (focus decide +kernel)) | (apply d_unw 2; (focus decide +kernel)) | (apply d_unw 3; (focus decide +kernel)) | (apply d_unw 4; (focus decide +kernel)) | (apply d_unw 5; (focus decide +kernel)) | (apply d_unw 6; (focus decide +kernel)) | (apply d_unw 7; (focus decide +kernel)) | (apply d_unw 8; (focus decide +kernel)) | (apply d_unw 9; (focus decide +kernel)) | (apply d_unw 10; (focus decide +kernel)) | (apply d_unw 11; (focus decide +kernel)) | (apply d_unw 12; (focus decide +kernel)) | (apply d_unw 13; (focus decide +kernel)) | (apply d_unw 14; (focus decide +kernel)) | (apply d_unw 15; (focus decide +kernel)) | (apply d_unw 16; (focus decide +kernel)) | (apply d_unw 17; (focus decide +kernel))); (focus (first | exact qds_FPost | exact qds_RPost | exact qds_YB | assumption)); (focus rfl); (iterate 2 (focus (simp only [go_sem, *, It.av]; (try rfl); done))); (focus rfl); simp only [putA])
                  | (first | (apply d_one 0; (focus decide +kernel)) | (apply d_one 1; (focus decide +kernel)) | (apply d_one 2; (focus decide +kernel)) | (apply d_one 3; (focus decide +kernel)) | (apply d_one 4; (focus decide +kernel)) | (apply d_one 5; (focus decide +kernel)) | (apply d_one 6; (focus decide +kernel)) | (apply d_one 7; (focus decide +kernel)) | (apply d_one 8; (focus decide +kernel)) | (apply d_one 9; (focus decide +kernel)) | (apply d_one 10; (focus decide +kernel)) | (apply d_one 11; (focus decide +kernel)) | (apply d_one 12; (focus decide +kernel)) | (apply d_one 13; (focus decide +kernel)) | (apply d_one 14; (focus decide +kernel)) | (apply d_one 15; (focus decide +kernel)) | (apply d_one 16; (focus decide +kernel)) | (apply d_one 17; (focus decide +kernel)))
                  | (apply o_step; (iterate 3 (focus (simp only [go_sem, *, It.av]; (try rfl); done))); (focus rfl); simp only [putA])
                  | (apply o_unw; (iterate 2 (focus (simp only [go_sem, *, It.av]; (try rfl); done))); (focus rfl); simp only [putA])
                  | apply pr_nil | apply pr_same | apply pr_go | apply pl_nil | apply pl_none | (apply pl_skip; (focus decide +kernel)) | (apply pl_one; (focus (simp only [go_sem, *, It.av]; (try rfl); done)))
                have hcut := Hcut.out
                rw [if_pos he] at hcut
                refine x_keep hO 4 [1, 2, 3, 6, 8, 9, 10] rfl (by (simp only [go_sem, *]; try rfl)) (by (simp only [go_sem, *]; try rfl)) (by (simp only [go_sem, *]; try rfl)) ?_
                simp only [List.take_succ_cons, List.take_zero]
                refine HI.out (i + 1, c, rr, o ++ [{ x with wait := tmz r.items (i + 1) - f }]) _ _ (by have := Hlt.out; simp only; omega) ⟨Hlt.out, by have := Ho.out; simp; omega, hcut, ?_, ?_, ?_, ?_, ?_, ?_, ?_, ?_, ?_⟩
                rotate_right
                · simp [It.av, he]
                all_goals (simp only [go_sem, *]; try rfl)
              | false =>
                have he : o ≠ [] := by
                  intro e
                  rw [e] at ho0
                  simp at ho0
                repeat' first
                  | apply x_seq | apply x_skip | apply x_block | apply x_exit | apply x_ret | apply x_ops_nil | apply p_blk | apply p_exit_it | apply p_exit_hit | apply p_ret_it | apply p_ret_blk | apply p_panic_it | apply p_panic_blk | apply p_end
                  | (apply p_exit_miss; (focus rfl))
                  | (apply x_region; simp only [List.toList_toArray])
                  | (apply x_step0; (focus rfl); (focus (simp only [go_sem, *, It.av]; (try rfl); done)); (focus rfl); simp only [putA])
                  | (apply x_panic; (focus (simp only [go_sem, *, It.av]; (try rfl); done)); (focus rfl); (focus (simp only [go_sem, *, It.av]; (try rfl); done)))
                  | (apply x_step; (iterate 2 (focus (simp only [go_sem, *, It.av]; (try rfl); done))); (focus rfl); simp only [putA])
                  | (apply x_unwanted; (focus (simp only [go_sem, *, It.av]; (try rfl); done)); (focus rfl); simp only [putA])
                  | (apply x_condT; (focus (simp only [go_sem, *, It.av]; (try rfl); done)))
                  | (apply x_condF; (focus (simp only [go_sem, *, It.av]; (try rfl); done)))
                  | (apply x_guardS; (focus rfl); (fail_if_success (focus (show _ = some true; (focus (simp only [go_sem, *, It.av]; (try rfl); done))))); (focus (simp only [go_sem, *, It.av]; (try rfl); done)); all_goals (intro hb; try simp only [Bool.not_eq_true', Bool.not_eq_false'] at hb))
                  | (apply x_condS; (focus (simp only [go_sem, *, It.av]; (try rfl); done)); all_goals (intro hb; try simp only [Bool.not_eq_true', Bool.not_eq_false'] at hb))
                  | (apply d_draw; (focus exact mixed); (focus ((simp only [List.size_toArray, List.length_cons, List.length_nil, Nat.reduceAdd]; try rfl); done)))
                  | (apply d_done; (focus decide +kernel))
                  | ((first | (apply d_take 0; (focus decide +kernel)) | (apply d_take 1; (focus decide +kernel)) | (apply d_take 2; (focus decide +kernel)) | (apply d_take 3; (focus decide +kernel)) | (apply d_take 4; (focus decide +kernel)) | (apply d_take 5; (focus decide +kernel)) | (apply d_take 6; (focus decide +kernel)) | (apply d_take 7; (focus decide +kernel)) | (apply d_take 8; (focus decide +kernel)) | (apply d_take 9; (focus decide +kernel)) | (apply d_take 10; (focus decide +kernel)) | (apply d_take 11; (focus decide +kernel)) | (apply d_take 12; (focus decide +kernel)) | (apply d_take 13; (focus decide +kernel)) | (apply d_take 14; (focus decide +kernel)) | (apply d_take 15; (focus decide +kernel)) | (apply d_take 16; (focus decide +kernel)) | (apply d_take 17; (focus decide +kernel))); (focus (first | exact qds_FPost | exact qds_RPost | exact qds_YB | assumption)); (focus rfl); (iterate 3 (focus (simp only [go_sem, *, It.av]; (try rfl); done))); (focus rfl); (focus (simp only [go_sem, *, It.av]; (try rfl); done)); simp only [putA])
                  | ((first | (apply d_unw 0; (focus decide +kernel)) | (apply d_unw 1; (focus decide +kernel)) | (apply d_unw 2; (focus decide +kernel)) | (apply d_unw 3; (focus decide +kernel)) | (apply d_unw 4; (focus decide +kernel)) | (apply d_unw 5; (focus decide +kernel)) | (apply d_unw 6; (focus decide +kernel)) | (apply d_unw 7; (focus decide +kernel)) | (apply d_unw 8; (focus decide +kernel)) | (apply d_unw 9; (focus decide +kernel)) | (apply d_unw 10; (focus decide +kernel)) | (apply d_unw 11; (focus decide +kernel)) | (apply d_unw 12; (focus decide +kernel)) | (apply d_unw 13; (focus decide +kernel)) | (apply d_unw 14; (focus decide +kernel)) | (apply d_unw 15; (focus decide +kernel)) | (apply d_unw 16; (focus decide +kernel)) | (apply d_unw 17; (focus decide +kernel))); (focus (first | exact qds_FPost | exact qds_RPost | exact qds_YB | assumption)); (focus rfl); (iterate 2 (focus (simp only [go_sem, *, It.av]; (try rfl); done))); (focus rfl); simp only [putA])
                  | (first | (apply d_one 0; (focus decide +kernel)) | (apply d_one 1; (focus decide +kernel)) | (apply d_one 2; (focus decide +kernel)) | (apply d_one 3; (focus decide +kernel)) | (apply d_one 4; (focus decide +kernel)) | (apply d_one 5; (focus decide +kernel)) | (apply d_one 6; (focus decide +kernel)) | (apply d_one 7; (focus decide +kernel)) | (apply d_one 8; (focus decide +kernel)) | (apply d_one 9; (focus decide +kernel)) | (apply d_one 10; (focus decide +kernel)) | (apply d_one 11; (focus decide +kernel)) | (apply d_one 12; (focus decide +kernel)) | (apply d_one 13; (focus decide +kernel)) | (apply d_one 14; (focus decide +kernel)) | (apply d_one 15; (focus decide +kernel)) | (apply d_one 16; (focus decide +kernel)) | (apply d_one 17; (focus decide +kernel)))
                  | (apply o_step; (iterate 3 (focus (simp only [go_sem, *, It.av]; (try rfl); done))); (focus rfl); simp only [putA])
                  | (apply o_unw; (iterate 2 (focus (simp only [go_sem, *, It.av]; (try rfl); done))); (focus rfl); simp only [putA])
                  | apply pr_nil | apply pr_same | apply pr_go | apply pl_nil | apply pl_none | (apply pl_skip; (focus decide +kernel)) | (apply pl_one; (focus (simp only [go_sem, *, It.av]; (try rfl); done)))
                have hcut := Hcut.out
                rw [if_neg he] at hcut
                refine x_keep hO 4 [1, 2, 3, 6, 8, 9, 10] rfl (by (simp only [go_sem, *]; try rfl)) (by (simp only [go_sem, *]; try rfl)) (by (simp only [go_sem, *]; try rfl)) ?_
                simp only [List.take_succ_cons, List.take_zero]
                refine HI.out (i + 1, c, rr, o ++ [x]) _ _ (by have := Hlt.out; simp only; omega) ⟨Hlt.out, by have := Ho.out; simp; omega, hcut, ?_, ?_, ?_, ?_, ?_, ?_, ?_, ?_, ?_⟩
                rotate_right
                · simp [It.av]
                all_goals (simp only [go_sem, *]; try rfl)
        · have hil : i = r.items.length := by omega
          subst hil
          rw [List.drop_of_length_le (Nat.le_refl _), cutL_nil] at hcut
          have h1 : decide ((r.items.length : Int) < (r.items.length : Int)) = false := by simp
          rw [← hcut] at h
          clear hlt hi ho hcut
          simp only at h
          repeat' first
            | apply x_seq | apply x_skip | apply x_block | apply x_exit | apply x_ret | apply x_ops_nil | apply p_blk | apply p_exit_it | apply p_exit_hit | apply p_ret_it | apply p_ret_blk | apply p_panic_it | apply p_panic_blk | apply p_end
            | (apply p_exit_miss; (focus rfl))
            | (apply x_region; simp only [List.toList_toArray])
            | (apply x_step0; (focus rfl); (focus (simp only [go_sem, *]; (try rfl); done)); (focus rfl); simp only [putA])
            | (apply x_panic; (focus (simp only [go_sem, *]; (try rfl); done)); (focus rfl); (focus (simp only [go_sem, *]; (try rfl); done)))
            | (apply x_step; (iterate 2 (focus (simp only [go_sem, *]; (try rfl); done))); (focus rfl); simp only [putA])
            | (apply x_unwanted; (focus (simp only [go_sem, *]; (try rfl); done)); (focus rfl); simp only [putA])
            | (apply x_condT; (focus (simp only [go_sem, *]; (try rfl); done)))
            | (apply x_condF; (focus (simp only [go_sem, *]; (try rfl); done)))
            | (apply x_guardS; (focus rfl); (fail_if_success (focus (show _ = some true; (focus (simp only [go_sem, *]; (try rfl); done))))); (focus (simp only [go_sem, *]; (try rfl); done)); all_goals (intro hb; try simp only [Bool.not_eq_true', Bool.not_eq_false'] at hb))
            | (apply x_condS; (focus (simp only [go_sem, *]; (try rfl); done)); all_goals (intro hb; try simp only [Bool.not_eq_true', Bool.not_eq_false'] at hb))
          (apply f_ret; iterate 7 (focus (simp only [go_sem, *, Tryz.results21]; (try rfl); done)))
          exact h
end Go.Proofs.YtnndmokndgnidaaGreatDoor
namespace Go.Proofs.YtnndmokndgnidaaGreatDoor
open Go Go.Fen
set_option linter.unusedSimpArgs false
set_option linter.unusedVariables false
attribute [local irreducible] RunX WP ACall AnyP OpA ProtL
set_option maxRecDepth 8000
set_option maxHeartbeats 8000000 in
theorem refJoin (w0 : World) (S : List Blk) (a b : Rec) (w : Int) (R : AOut → List Blk → Prop) (h : R (.ret (resAV (joinS a b w))) S) :
    ACall Tryz.prog w0 24 [a.av, b.av, .int .i64 w] S R := by
  have ca := fun S' => refCheck w0 S' a
  have cb := fun S' => refCheck w0 S' b
  unfold joinS at h
  unfold resAV at h
  cases hca : checkB a with
  | false =>
    simp only [hca, Bool.false_eq_true, if_false] at h ca
    clear cb
    unfold Rec.av zeroR at h
    unfold Rec.av at ca ⊢
    replace ca := Lib.hid ca
    refine enter Tryz.func24 rfl (by decide +kernel) (by rw [Tryz.ntmps24]; simp) (by rw [Tryz.ntmps24]; decide) (fun hO => ?_); rw [Tryz.ntmps24]
    repeat' first
      | apply x_seq | apply x_skip | apply x_block | apply x_exit | apply x_ret | apply x_ops_nil | apply p_blk | apply p_exit_it | apply p_exit_hit | apply p_ret_it | apply p_ret_blk | apply p_panic_it | apply p_panic_blk | apply p_end
      | (apply p_exit_miss; (focus rfl))
      | (apply x_region; simp only [List.toList_toArray])
      | (apply x_step0; (focus rfl); (focus (simp only [go_sem, *]; (try rfl); done)); (focus rfl); simp only [putA])
      | (apply x_callA []; (focus (simp only [go_sem, *]; (try rfl); done)); (focus rfl); (focus (simp only [go_sem, *]; (try rfl); done)); (focus rfl); (iterate 2 (focus (simp only [go_sem, *]; (try rfl); done))); (first | (apply ca.out)); simp only [afterCall, putA])
      | (apply x_panic; (focus (simp only [go_sem, *]; (try rfl); done)); (focus rfl); (focus (simp only [go_sem, *]; (try rfl); done)))
      | (apply x_step; (iterate 2 (focus (simp only [go_sem, *]; (try rfl); done))); (focus rfl); simp only [putA])
      | (apply x_unwanted; (focus (simp only [go_sem, *]; (try rfl); done)); (focus rfl); simp only [putA])
      | (apply x_condT; (focus (simp only [go_sem, *]; (try rfl); done)))
      | (apply x_condF; (focus (simp only [go_sem, *]; (try rfl); done)))
      | (apply x_guardS; (focus rfl); (fail_if_success (focus (show _ = some true; (focus (simp only [go_sem, *]; (try rfl); done))))); (focus (simp only [go_sem, *]; (try rfl); done)); all_goals (intro hb; try simp only [Bool.not_eq_true', Bool.not_eq_false'] at hb))
      | (apply x_condS; (focus (simp only [go_sem, *]; (try rfl); done)); all_goals (intro hb; try simp only [Bool.not_eq_true', Bool.not_eq_false'] at hb))
    (apply f_ret; iterate 7 (focus (simp only [go_sem, *, Tryz.results24]; (try rfl); done)))
    exact h
  | true =>
    cases hcb : checkB b with
    | false =>
      simp only [hca, hcb, Bool.false_eq_true, if_false, if_true] at h ca cb
      unfold Rec.av zeroR at h
      unfold Rec.av at ca cb ⊢
      replace ca := Lib.hid ca
      replace cb := Lib.hid cb
      refine enter Tryz.func24 rfl (by decide +kernel) (by rw [Tryz.ntmps24]; simp) (by rw [Tryz.ntmps24]; decide) (fun hO => ?_); rw [Tryz.ntmps24]
      repeat' first
        | apply x_seq | apply x_skip | apply x_block | apply x_exit | apply x_ret | apply x_ops_nil | apply p_blk | apply p_exit_it | apply p_exit_hit | apply p_ret_it | apply p_ret_blk | apply p_panic_it | apply p_panic_blk | apply p_end
        | (apply p_exit_miss; (focus rfl))
        | (apply x_region; simp only [List.toList_toArray])
        | (apply x_step0; (focus rfl); (focus (simp only [go_sem, *]; (try rfl); done)); (focus rfl); simp only [putA])
        | (apply x_callA []; (focus (simp only [go_sem, *]; (try rfl); done)); (focus rfl); (focus (simp only [go_sem, *]; (try rfl); done)); (focus rfl); (iterate 2 (focus (simp only [go_sem, *]; (try rfl); done))); (first | (apply ca.out) | (apply cb.out)); simp only [afterCall, putA])
        | (apply x_panic; (focus (simp only [go_sem, *]; (try rfl); done)); (focus rfl); (focus (simp only [go_sem, *]; (try rfl); done)))
        | (apply x_step; (iterate 2 (focus (simp only [go_sem, *]; (try rfl); done))); (focus rfl); simp only [putA])
        | (apply x_unwanted; (focus (simp only [go_sem, *]; (try rfl); done)); (focus rfl); simp only [putA])
        | (apply x_condT; (focus (simp only [go_sem, *]; (try rfl); done)))
        | (apply x_condF; (focus (simp only [go_sem, *]; (try rfl); done)))
        | (apply x_guardS; (focus rfl); (fail_if_success (focus (show _ = some true; (focus (simp only [go_sem, *]; (try rfl); done))))); (focus (simp only [go_sem, *]; (try rfl); done)); all_goals (intro hb; try simp only [Bool.not_eq_true', Bool.not_eq_false'] at hb))
        | (apply x_condS; (focus (simp only [go_sem, *]; (try rfl); done)); all_goals (intro hb; try simp only [Bool.not_eq_true', Bool.not_eq_false'] at hb))
      (apply f_ret; iterate 7 (focus (simp only [go_sem, *, Tryz.results24]; (try rfl); done)))
      exact h
    | true =>
      have la := chk_len hca
      have lb := chk_len hcb
      simp only [hca, hcb, if_true] at h ca cb
      cases hww : wB w 0 1000000 with
      | false =>
        simp only [hww, Bool.false_eq_true, if_false] at h
        have d1 : (decide (w < 0) || decide (1000000 < w)) = true := by
          unfold wB at hww
          simp only [Bool.and_eq_false_iff, decide_eq_false_iff_not] at hww
          simp; omega
        clear hww
        unfold Rec.av zeroR at h
        unfold Rec.av at ca cb ⊢
        replace ca := Lib.hid ca
        replace cb := Lib.hid cb
        cases hf0 : decide (w < 0) with
        | true =>
          clear d1
          refine enter Tryz.func24 rfl (by decide +kernel) (by rw [Tryz.ntmps24]; simp) (by rw [Tryz.ntmps24]; decide) (fun hO => ?_); rw [Tryz.ntmps24]
          repeat' first
            | apply x_seq | apply x_skip | apply x_block | apply x_exit | apply x_ret | apply x_ops_nil | apply p_blk | apply p_exit_it | apply p_exit_hit | apply p_ret_it | apply p_ret_blk | apply p_panic_it | apply p_panic_blk | apply p_end
            | (apply p_exit_miss; (focus rfl))
            | (apply x_region; simp only [List.toList_toArray])
            | (apply x_step0; (focus rfl); (focus (simp only [go_sem, *]; (try rfl); done)); (focus rfl); simp only [putA])
            | (apply x_callA []; (focus (simp only [go_sem, *]; (try rfl); done)); (focus rfl); (focus (simp only [go_sem, *]; (try rfl); done)); (focus rfl); (iterate 2 (focus (simp only [go_sem, *]; (try rfl); done))); (first | (apply ca.out) | (apply cb.out)); simp only [afterCall, putA])
            | (apply x_panic; (focus (simp only [go_sem, *]; (try rfl); done)); (focus rfl); (focus (simp only [go_sem, *]; (try rfl); done)))
            | (apply x_step; (iterate 2 (focus (simp only [go_sem, *]; (try rfl); done))); (focus rfl); simp only [putA])
            | (apply x_unwanted; (focus (simp only [go_sem, *]; (try rfl); done)); (focus rfl); simp only [putA])
            | (apply x_condT; (focus (simp only [go_sem, *]; (try rfl); done)))
            | (apply x_condF; (focus (simp only [go_sem, *]; (try rfl); done)))
            | (apply x_guardS; (focus rfl); (fail_if_success (focus (show _ = some true; (focus (simp only [go_sem, *]; (try rfl); done))))); (focus (simp only [go_sem, *]; (try rfl); done)); all_goals (intro hb; try simp only [Bool.not_eq_true', Bool.not_eq_false'] at hb))
            | (apply x_condS; (focus (simp only [go_sem, *]; (try rfl); done)); all_goals (intro hb; try simp only [Bool.not_eq_true', Bool.not_eq_false'] at hb))
          (apply f_ret; iterate 7 (focus (simp only [go_sem, *, Tryz.results24]; (try rfl); done)))
          exact h
        | false =>
          have d2 : decide (1000000 < w) = true := by rw [hf0] at d1; simpa using d1
          clear d1
          refine enter Tryz.func24 rfl (by decide +kernel) (by rw [Tryz.ntmps24]; simp) (by rw [Tryz.ntmps24]; decide) (fun hO => ?_); rw [Tryz.ntmps24]
          repeat' first
            | apply x_seq | apply x_skip | apply x_block | apply x_exit | apply x_ret | apply x_ops_nil | apply p_blk | apply p_exit_it | apply p_exit_hit | apply p_ret_it | apply p_ret_blk | apply p_panic_it | apply p_panic_blk | apply p_end
            | (apply p_exit_miss; (focus rfl))
            | (apply x_region; simp only [List.toList_toArray])
            | (apply x_step0; (focus rfl); (focus (simp only [go_sem, *]; (try rfl); done)); (focus rfl); simp only [putA])
            | (apply x_callA []; (focus (simp only [go_sem, *]; (try rfl); done)); (focus rfl); (focus (simp only [go_sem, *]; (try rfl); done)); (focus rfl); (iterate 2 (focus (simp only [go_sem, *]; (try rfl); done))); (first | (apply ca.out) | (apply cb.out)); simp only [afterCall, putA])
            | (apply x_panic; (focus (simp only [go_sem, *]; (try rfl); done)); (focus rfl); (focus (simp only [go_sem, *]; (try rfl); done)))
            | (apply x_step; (iterate 2 (focus (simp only [go_sem, *]; (try rfl); done))); (focus rfl); simp only [putA])
            | (apply x_unwanted; (focus (simp only [go_sem, *]; (try rfl); done)); (focus rfl); simp only [putA])
            | (apply x_condT; (focus (simp only [go_sem, *]; (try rfl); done)))
            | (apply x_condF; (focus (simp only [go_sem, *]; (try rfl); done)))
            | (apply x_guardS; (focus rfl); (fail_if_success (focus (show _ = some true; (focus (simp only [go_sem, *]; (try rfl); done))))); (focus (simp only [go_sem, *]; (try rfl); done)); all_goals (intro hb; try simp only [Bool.not_eq_true', Bool.not_eq_false'] at hb))
            | (apply x_condS; (focus (simp only [go_sem, *]; (try rfl); done)); all_goals (intro hb; try simp only [Bool.not_eq_true', Bool.not_eq_false'] at hb))
          (apply f_ret; iterate 7 (focus (simp only [go_sem, *, Tryz.results24]; (try rfl); done)))
          exact h
      | true =>
        simp only [hww, if_true] at h
        have d1 : decide (w < 0) = false := by unfold wB at hww; simp at hww; simp; omega
        have d2 : decide (1000000 < w) = false := by unfold wB at hww; simp at hww; simp; omega
        have q1 : IntKind.i64.wrap ((a.items.length : Int) + 1) = ((a.items.length + 1 : Nat) : Int) := (IntWalk.i64_in _ (by omega)).trans (by omega)
        have q2 : IntKind.i64.wrap (((a.items.length + 1 : Nat) : Int) + (b.items.length : Int)) = ((a.items.length + 1 + b.items.length : Nat) : Int) := (IntWalk.i64_in _ (by omega)).trans (by omega)
        clear hww
        by_cases hlt : a.items.length + b.items.length < 1000
        · rw [if_pos hlt] at h
          have d3 : decide ((1000 : Int) < ((a.items.length + 1 + b.items.length : Nat) : Int)) = false := by simp; omega
          have r0 : a.items.length * 48 ≤ 140737488355328 := by omega
          have r1 : (0 + a.items.length) * 48 ≤ 140737488355328 := by omega
          have r2 : (a.items.length + 1) * 48 ≤ 140737488355328 := by omega
          have r3 : (a.items.length + 1 + b.items.length) * 48 ≤ 140737488355328 := by omega
          have okA := It.ok a.items
          have okB := It.ok b.items
          simp only [okEls, AV.cells] at okA okB
          clear hlt la lb
          rw [Rec.av, List.map_append, List.map_cons] at h
          unfold Rec.av at ca cb ⊢
          replace ca := Lib.hid ca
          replace cb := Lib.hid cb
          refine enter Tryz.func24 rfl (by decide +kernel) (by rw [Tryz.ntmps24]; simp) (by rw [Tryz.ntmps24]; decide) (fun hO => ?_); rw [Tryz.ntmps24]
          repeat' first
            | apply x_seq | apply x_skip | apply x_block | apply x_exit | apply x_ret | apply x_ops_nil | apply p_blk | apply p_exit_it | apply p_exit_hit | apply p_ret_it | apply p_ret_blk | apply p_panic_it | apply p_panic_blk | apply p_end
            | (apply p_exit_miss; (focus rfl))
            | (apply x_region; simp only [List.toList_toArray])
            | (apply x_step0; (focus rfl); (focus (simp only [go_sem, *, List.length_append]; (try rfl); done)); (focus rfl); simp only [putA])
            | (apply x_callA []; (focus (simp only [go_sem, *, List.length_append]; (try rfl); done)); (focus rfl); (focus (simp only [go_sem, *, List.length_append]; (try rfl); done)); (focus rfl); (iterate 2 (focus (simp only [go_sem, *, List.length_append]; (try rfl); done))); (first | (apply ca.out) | (apply cb.out)); simp only [afterCall, putA])
            | (apply x_panic; (focus (simp only [go_sem, *, List.length_append]; (try rfl); done)); (focus rfl); (focus (simp only [go_sem, *, List.length_append]; (try rfl); done)))
            | (apply x_step; (iterate 2 (focus (simp only [go_sem, *, List.length_append]; (try rfl); done))); (focus rfl); simp only [putA])
            | (apply x_unwanted; (focus (simp only [go_sem, *, List.length_append]; (try rfl); done)); (focus rfl); simp only [putA])
            | (apply x_condT; (focus (simp only [go_sem, *, List.length_append]; (try rfl); done)))
            | (apply x_condF; (focus (simp only [go_sem, *, List.length_append]; (try rfl); done)))
            | (apply x_guardS; (focus rfl); (fail_if_success (focus (show _ = some true; (focus (simp only [go_sem, *, List.length_append]; (try rfl); done))))); (focus (simp only [go_sem, *, List.length_append]; (try rfl); done)); all_goals (intro hb; try simp only [Bool.not_eq_true', Bool.not_eq_false'] at hb))
            | (apply x_condS; (focus (simp only [go_sem, *, List.length_append]; (try rfl); done)); all_goals (intro hb; try simp only [Bool.not_eq_true', Bool.not_eq_false'] at hb))
            | (apply d_draw; (focus exact mixed); (focus ((simp only [List.size_toArray, List.length_cons, List.length_nil, Nat.reduceAdd]; try rfl); done)))
            | (apply d_done; (focus decide +kernel))
            | ((first | (apply d_take 0; (focus decide +kernel)) | (apply d_take 1; (focus decide +kernel)) | (apply d_take 2; (focus decide +kernel)) | (apply d_take 3; (focus decide +kernel)) | (apply d_take 4; (focus decide +kernel)) | (apply d_take 5; (focus decide +kernel)) | (apply d_take 6; (focus decide +kernel)) | (apply d_take 7; (focus decide +kernel)) | (apply d_take 8; (focus decide +kernel)) | (apply d_take 9; (focus decide +kernel)) | (apply d_take 10; (focus decide +kernel)) | (apply d_take 11; (focus decide +kernel)) | (apply d_take 12; (focus decide +kernel)) | (apply d_take 13; (focus decide +kernel)) | (apply d_take 14; (focus decide +kernel)) | (apply d_take 15; (focus decide +kernel)) | (apply d_take 16; (focus decide +kernel)) | (apply d_take 17; (focus decide +kernel))); (focus (first | exact qds_FPost | exact qds_RPost | exact qds_YB | assumption)); (focus rfl); (iterate 3 (focus (simp only [go_sem, *, List.length_append]; (try rfl); done))); (focus rfl); (focus (simp only [go_sem, *, List.length_append]; (try rfl); done)); simp only [putA])
            | ((first | (apply d_unw 0; (focus decide +kernel)) | (apply d_unw 1; (focus decide +kernel)) | (apply d_unw 2; (focus decide +kernel)) | (apply d_unw 3; (focus decide +kernel)) | (apply d_unw 4; (focus decide +kernel)) | (apply d_unw 5; (focus decide +kernel)) | (apply d_unw 6; (focus decide +kernel)) | (apply d_unw 7; (focus decide +kernel)) | (apply d_unw 8; (focus decide +kernel)) | (apply d_unw 9; (focus decide +kernel)) | (apply d_unw 10; (focus decide +kernel)) | (apply d_unw 11; (focus decide +kernel)) | (apply d_unw 12; (focus decide +kernel)) | (apply d_unw 13; (focus decide +kernel)) | (apply d_unw 14; (focus decide +kernel)) | (apply d_unw 15; (focus decide +kernel)) | (apply d_unw 16; (focus decide +kernel)) | (apply d_unw 17; (focus decide +kernel))); (focus (first | exact qds_FPost | exact qds_RPost | exact qds_YB | assumption)); (focus rfl); (iterate 2 (focus (simp only [go_sem, *, List.length_append]; (try rfl); done))); (focus rfl); simp only [putA])
            | (first | (apply d_one 0; (focus decide +kernel)) | (apply d_one 1; (focus decide +kernel)) | (apply d_one 2; (focus decide +kernel)) | (apply d_one 3; (focus decide +kernel)) | (apply d_one 4; (focus decide +kernel)) | (apply d_one 5; (focus decide +kernel)) | (apply d_one 6; (focus decide +kernel)) | (apply d_one 7; (focus decide +kernel)) | (apply d_one 8; (focus decide +kernel)) | (apply d_one 9; (focus decide +kernel)) | (apply d_one 10; (focus decide +kernel)) | (apply d_one 11; (focus decide +kernel)) | (apply d_one 12; (focus decide +kernel)) | (apply d_one 13; (focus decide +kernel)) | (apply d_one 14; (focus decide +kernel)) | (apply d_one 15; (focus decide +kernel)) | (apply d_one 16; (focus decide +kernel)) | (apply d_one 17; (focus decide +kernel)))
            | (apply d_two 4 9; (focus decide +kernel))
            | (apply d_two 7 9; (focus decide +kernel))
            | (apply o_step; (iterate 3 (focus (simp only [go_sem, *, List.length_append]; (try rfl); done))); (focus rfl); simp only [putA])
            | (apply o_unw; (iterate 2 (focus (simp only [go_sem, *, List.length_append]; (try rfl); done))); (focus rfl); simp only [putA])
            | apply pr_nil | apply pr_same | apply pr_go | apply pl_nil | apply pl_none | (apply pl_skip; (focus decide +kernel)) | (apply pl_one; (focus (simp only [go_sem, *, List.length_append]; (try rfl); done)))
            | (apply o_call []; (iterate 2 (focus (simp only [go_sem, *, List.length_append]; (try rfl); done))); (focus rfl); (focus (simp only [go_sem, *, List.length_append]; (try rfl); done)); (focus rfl); (iterate 2 (focus (simp only [go_sem, *, List.length_append]; (try rfl); done))); (first | (apply ca.out) | (apply cb.out)); simp only [afterOp, putA])
          all_goals
            (apply f_ret; iterate 7 (focus (simp only [go_sem, *, Tryz.results24, List.length_append]; (try rfl); done)))
            refine cast (congrArg (fun l => R (.ret (.tup [.agg [.int .i64 a.cols, .int .i64 a.rows, .sval false l], .int .i64 0])) S) ?_) h
            simp [It.av]
        · rw [if_neg hlt] at h
          have d3 : decide ((1000 : Int) < ((a.items.length + 1 + b.items.length : Nat) : Int)) = true := by simp; omega
          clear hlt la lb
          unfold Rec.av zeroR at h
          unfold Rec.av at ca cb ⊢
          replace ca := Lib.hid ca
          replace cb := Lib.hid cb
          refine enter Tryz.func24 rfl (by decide +kernel) (by rw [Tryz.ntmps24]; simp) (by rw [Tryz.ntmps24]; decide) (fun hO => ?_); rw [Tryz.ntmps24]
          repeat' first
            | apply x_seq | apply x_skip | apply x_block | apply x_exit | apply x_ret | apply x_ops_nil | apply p_blk | apply p_exit_it | apply p_exit_hit | apply p_ret_it | apply p_ret_blk | apply p_panic_it | apply p_panic_blk | apply p_end
            | (apply p_exit_miss; (focus rfl))
            | (apply x_region; simp only [List.toList_toArray])
            | (apply x_step0; (focus rfl); (focus (simp only [go_sem, *]; (try rfl); done)); (focus rfl); simp only [putA])
            | (apply x_callA []; (focus (simp only [go_sem, *]; (try rfl); done)); (focus rfl); (focus (simp only [go_sem, *]; (try rfl); done)); (focus rfl); (iterate 2 (focus (simp only [go_sem, *]; (try rfl); done))); (first | (apply ca.out) | (apply cb.out)); simp only [afterCall, putA])
            | (apply x_panic; (focus (simp only [go_sem, *]; (try rfl); done)); (focus rfl); (focus (simp only [go_sem, *]; (try rfl); done)))
            | (apply x_step; (iterate 2 (focus (simp only [go_sem, *]; (try rfl); done))); (focus rfl); simp only [putA])
            | (apply x_unwanted; (focus (simp only [go_sem, *]; (try rfl); done)); (focus rfl); simp only [putA])
            | (apply x_condT; (focus (simp only [go_sem, *]; (try rfl); done)))
            | (apply x_condF; (focus (simp only [go_sem, *]; (try rfl); done)))
            | (apply x_guardS; (focus rfl); (fail_if_success (focus (show _ = some true; (focus (simp only [go_sem, *]; (try rfl); done))))); (focus (simp only [go_sem, *]; (try rfl); done)); all_goals (intro hb; try simp only [Bool.not_eq_true', Bool.not_eq_false'] at hb))
            | (apply x_condS; (focus (simp only [go_sem, *]; (try rfl); done)); all_goals (intro hb; try simp only [Bool.not_eq_true', Bool.not_eq_false'] at hb))
          (apply f_ret; iterate 7 (focus (simp only [go_sem, *, Tryz.results24]; (try rfl); done)))
          exact h
end Go.Proofs.YtnndmokndgnidaaGreatDoor
namespace Go.Proofs.YtnndmokndgnidaaGreatDoor
open Go Go.Fen
set_option linter.unusedSimpArgs false
set_option linter.unusedVariables false
attribute [local irreducible] RunX WP ACall AnyP OpA ProtL
set_option maxRecDepth 8000
theorem cutL_len (f m : Int) : ∀ (l : List It) (n c r : Int) (o : List It), (cutL f m l n c r o).items.length ≤ o.length + l.length := by
  intro l
  induction l with
  | nil => intro n c r o; rw [cutL_nil]; simp
  | cons x l ih =>
    intro n c r o
    rw [cutL]
    split
    · simp
    · split
      · have := ih (n + x.wait) x.cols x.rows o; simp; omega
      · split
        · refine Nat.le_trans (ih _ _ _ _) ?_
          simp; omega
        · have := ih (n + x.wait) c r o; simp; omega
theorem cutS_len {r : Rec} {f t : Int} (h : r.items.length ≤ 100) : ((cutS r f t).1.items.length : Int) < 9223372036854775807 := by
  have : (cutS r f t).1.items.length ≤ 100 := by
    unfold cutS
    split
    · split
      · simp [zeroR]
      · have := cutL_len f (if t > f then t else f) r.items 0 r.cols r.rows []
        simp at this ⊢; omega
    · simp [zeroR]
  omega
theorem joinS_len {a b : Rec} {w : Int} (ha : a.items.length ≤ 100) (hb : b.items.length ≤ 100) : ((joinS a b w).1.items.length : Int) < 9223372036854775807 := by
  have : (joinS a b w).1.items.length ≤ 1000 := by
    unfold joinS
    repeat' split
    all_goals first | (simp [zeroR]; done) | (simp; omega)
  omega
theorem x_genS {P : Program} {w0 : World} {n0 N : Nat} {r : Option Nat} {Q : APost} {k : List TI} {env : Env} {S : List Blk} {i : KI} (h : ∀ S', S' = S → RunX P w0 n0 N r (.it i :: k) Q .normal env S') : RunX P w0 n0 N r (.it i :: k) Q .normal env S := h S rfl
set_option maxHeartbeats 64000000 in
theorem cutsLaw (w0 : World) (hT : Tab w0) (hS : Syn w0) (S : List Blk) (r0 : Rec) (d d2 : Dr) (n1 n2 : Int) (R : AOut → List Blk → Prop) (h : R (.ret (.bool true)) S) :
    ACall Tryz.prog w0 4 [r0.av, .agg [.int .u8 d.cols, .int .u8 d.rows, .sval false (d.items.map DIt.av), .int .u8 d2.cols, .int .u8 d2.rows, .sval false (d2.items.map DIt.av)], .agg [.int .i64 n1, .int .i64 n2]] S R := by
  have hsh := fun S' => short w0 S' r0
  have hre1 := fun S' => recording w0 S' d
  have hre2 := fun S' => recording w0 S' d2
  have hwo := works w0 hT (parseUint w0 hS)
  have hca := rcd_check d
  have hlr : (shortR r0).items.length ≤ 100 := by simp [shortR]; omega
  have hla : d.rcd.items.length ≤ 100 := by simp [Dr.rcd]; omega
  have hlb : d2.rcd.items.length ≤ 100 := by simp [Dr.rcd]; omega
  generalize shortR r0 = r at hsh hlr
  generalize d.rcd = a at hre1 hca hla
  generalize d2.rcd = b at hre2 hlb
  have hTb := tmz_bd (waits_of hca).2 a.items.length
  obtain ⟨T, hTd⟩ : ∃ T, T = tmz a.items a.items.length := ⟨_, rfl⟩
  rw [← hTd] at hTb
  have k1 : IntKind.i64.wrap (T + 2) = T + 2 := IntWalk.i64_in _ (by omega)
  have k2 : IntKind.u64.wrap (T + 2) = T + 2 := IntWalk.u64_in _ (by omega)
  have k5 : (T + 2 = 0) = False := by simp; omega
  have hrl : ∀ S' (R : AOut → List Blk → Prop), R (.ret (.tup [.int .i64 T, .int .i64 0])) S' → ACall Tryz.prog w0 12 [a.av] S' R := fun S' R h => refLong w0 S' a (by omega) R (by unfold longS; rw [if_pos hca, ← hTd]; exact h)
  have facts : ∀ x : Rec, x.items.length ≤ 100 → ∃ (CQ : Int → Int → Rec) (CE : Int → Int → Int) (JQ : Int → Rec) (JE : Int → Int) (GQ : Int → Rec) (GE : Int → Int),
      (∀ S' p q (R : AOut → List Blk → Prop), R (.ret (.tup [(CQ p q).av, .int .i64 (CE p q)])) S' → ACall Tryz.prog w0 20 [x.av, .int .i64 p, .int .i64 q] S' R) ∧
      (∀ S' p q (R : AOut → List Blk → Prop), R (.ret (.tup [(CQ p q).av, .int .i64 (CE p q)])) S' → ACall Tryz.prog w0 21 [x.av, .int .i64 p, .int .i64 q] S' R) ∧
      (∀ S' p q (R : AOut → List Blk → Prop), R (.ret (.bool true)) S' → ACall Tryz.prog w0 22 [(CQ p q).av, .int .i64 (CE p q), (CQ p q).av, .int .i64 (CE p q)] S' R) ∧
      (∀ S' p (R : AOut → List Blk → Prop), R (.ret (.tup [(JQ p).av, .int .i64 (JE p)])) S' → ACall Tryz.prog w0 23 [x.av, b.av, .int .i64 p] S' R) ∧
      (∀ S' p (R : AOut → List Blk → Prop), R (.ret (.tup [(JQ p).av, .int .i64 (JE p)])) S' → ACall Tryz.prog w0 24 [x.av, b.av, .int .i64 p] S' R) ∧
      (∀ S' p (R : AOut → List Blk → Prop), R (.ret (.bool true)) S' → ACall Tryz.prog w0 22 [(JQ p).av, .int .i64 (JE p), (JQ p).av, .int .i64 (JE p)] S' R) ∧
      (∀ S' p (R : AOut → List Blk → Prop), R (.ret (.tup [(GQ p).av, .int .i64 (GE p)])) S' → ACall Tryz.prog w0 23 [b.av, x.av, .int .i64 p] S' R) ∧
      (∀ S' p (R : AOut → List Blk → Prop), R (.ret (.tup [(GQ p).av, .int .i64 (GE p)])) S' → ACall Tryz.prog w0 24 [b.av, x.av, .int .i64 p] S' R) ∧
      (∀ S' p (R : AOut → List Blk → Prop), R (.ret (.bool true)) S' → ACall Tryz.prog w0 22 [(GQ p).av, .int .i64 (GE p), (GQ p).av, .int .i64 (GE p)] S' R) := by
    intro x hx
    refine ⟨fun p q => (cutS x p q).1, fun p q => (cutS x p q).2, fun p => (joinS x b p).1, fun p => (joinS x b p).2, fun p => (joinS b x p).1, fun p => (joinS b x p).2, ?_, ?_, ?_, ?_, ?_, ?_, ?_, ?_, ?_⟩
    · exact fun S' p q R h => cut w0 S' x (by omega) p q R (by simpa only [resAV] using h)
    · exact fun S' p q R h => refCut w0 S' x p q R (by simpa only [resAV] using h)
    · exact fun S' p q R h => like w0 S' _ _ _ _ (cutS_len hx) R (by simpa [sameB] using h)
    · exact fun S' p R h => join w0 S' x b (by omega) (by omega) p R (by simpa only [resAV] using h)
    · exact fun S' p R h => refJoin w0 S' x b p R (by simpa only [resAV] using h)
    · exact fun S' p R h => like w0 S' _ _ _ _ (joinS_len hx hlb) R (by simpa [sameB] using h)
    · exact fun S' p R h => join w0 S' b x (by omega) (by omega) p R (by simpa only [resAV] using h)
    · exact fun S' p R h => refJoin w0 S' b x p R (by simpa only [resAV] using h)
    · exact fun S' p R h => like w0 S' _ _ _ _ (joinS_len hlb hx) R (by simpa [sameB] using h)
  have Facts := Lib.hid facts
  have Hlr := Lib.hid hlr
  have Hla := Lib.hid hla
  clear facts hca hlr hla hlb hTb hTd hT hS
  unfold Rec.av at hsh hre1 hre2 hrl
  unfold Rec.av
  unfold Dr.av at hre1 hre2
  replace hsh := Lib.hid hsh
  replace hre1 := Lib.hid hre1
  replace hre2 := Lib.hid hre2
  replace hwo := Lib.hid hwo
  replace hrl := Lib.hid hrl
  refine enter Tryz.func4 rfl (by decide +kernel) (by rw [Tryz.ntmps4]; simp) (by rw [Tryz.ntmps4]; decide) (fun hO => ?_); rw [Tryz.ntmps4]
  refine share ?K1 ?hK1 fun key1 => share ?K2 ?hK2 fun key2 => ?main
  case main =>
    repeat' first
      | apply x_seq | apply x_skip | apply x_block | apply x_exit | apply x_ret | apply x_ops_nil | apply p_blk | apply p_exit_it | apply p_exit_hit | apply p_ret_it | apply p_ret_blk | apply p_panic_it | apply p_panic_blk | apply p_end
      | (apply p_exit_miss; (focus rfl))
      | (apply x_region; simp only [List.toList_toArray])
      | (apply x_step0; (focus rfl); (focus (simp only [go_sem, *]; (try rfl); done)); (focus rfl); simp only [putA])
      | (apply x_callA []; (focus (simp only [go_sem, *]; (try rfl); done)); (focus rfl); (focus (simp only [go_sem, *]; (try rfl); done)); (focus rfl); (iterate 2 (focus (simp only [go_sem, *]; (try rfl); done))); (first | (apply hsh.out) | (apply hre1.out) | (apply hre2.out)); simp only [afterCall, putA])
      | (apply x_panic; (focus (simp only [go_sem, *]; (try rfl); done)); (focus rfl); (focus (simp only [go_sem, *]; (try rfl); done)))
      | (apply x_step; (iterate 2 (focus (simp only [go_sem, *]; (try rfl); done))); (focus rfl); simp only [putA])
      | (apply x_unwanted; (focus (simp only [go_sem, *]; (try rfl); done)); (focus rfl); simp only [putA])
      | (apply x_condT; (focus (simp only [go_sem, *]; (try rfl); done)))
      | (apply x_condF; (focus (simp only [go_sem, *]; (try rfl); done)))
      | (apply x_guardS; (focus rfl); (fail_if_success (focus (show _ = some true; (focus (simp only [go_sem, *]; (try rfl); done))))); (focus (simp only [go_sem, *]; (try rfl); done)); all_goals (intro hb; try simp only [Bool.not_eq_true', Bool.not_eq_false'] at hb))
      | (apply x_condS; (focus (simp only [go_sem, *]; (try rfl); done)); all_goals (intro hb; try simp only [Bool.not_eq_true', Bool.not_eq_false'] at hb))
      | (apply d_draw; (focus exact mixed); (focus ((simp only [List.size_toArray, List.length_cons, List.length_nil, Nat.reduceAdd]; try rfl); done)))
      | (apply d_done; (focus decide +kernel))
      | ((first | (apply d_take 0; (focus decide +kernel)) | (apply d_take 1; (focus decide +kernel)) | (apply d_take 2; (focus decide +kernel)) | (apply d_take 3; (focus decide +kernel)) | (apply d_take 4; (focus decide +kernel)) | (apply d_take 5; (focus decide +kernel)) | (apply d_take 6; (focus decide +kernel)) | (apply d_take 7; (focus decide +kernel)) | (apply d_take 8; (focus decide +kernel)) | (apply d_take 9; (focus decide +kernel)) | (apply d_take 10; (focus decide +kernel)) | (apply d_take 11; (focus decide +kernel)) | (apply d_take 12; (focus decide +kernel)) | (apply d_take 13; (focus decide +kernel)) | (apply d_take 14; (focus decide +kernel)) | (apply d_take 15; (focus decide +kernel)) | (apply d_take 16; (focus decide +kernel)) | (apply d_take 17; (focus decide +kernel))); (focus (first | exact qds_FPost | exact qds_RPost | exact qds_YB | assumption)); (focus rfl); (iterate 3 (focus (simp only [go_sem, *]; (try rfl); done))); (focus rfl); (focus (simp only [go_sem, *]; (try rfl); done)); simp only [putA])
      | ((first | (apply d_unw 0; (focus decide +kernel)) | (apply d_unw 1; (focus decide +kernel)) | (apply d_unw 2; (focus decide +kernel)) | (apply d_unw 3; (focus decide +kernel)) | (apply d_unw 4; (focus decide +kernel)) | (apply d_unw 5; (focus decide +kernel)) | (apply d_unw 6; (focus decide +kernel)) | (apply d_unw 7; (focus decide +kernel)) | (apply d_unw 8; (focus decide +kernel)) | (apply d_unw 9; (focus decide +kernel)) | (apply d_unw 10; (focus decide +kernel)) | (apply d_unw 11; (focus decide +kernel)) | (apply d_unw 12; (focus decide +kernel)) | (apply d_unw 13; (focus decide +kernel)) | (apply d_unw 14; (focus decide +kernel)) | (apply d_unw 15; (focus decide +kernel)) | (apply d_unw 16; (focus decide +kernel)) | (apply d_unw 17; (focus decide +kernel))); (focus (first | exact qds_FPost | exact qds_RPost | exact qds_YB | assumption)); (focus rfl); (iterate 2 (focus (simp only [go_sem, *]; (try rfl); done))); (focus rfl); simp only [putA])
      | (first | (apply d_one 0; (focus decide +kernel)) | (apply d_one 1; (focus decide +kernel)) | (apply d_one 2; (focus decide +kernel)) | (apply d_one 3; (focus decide +kernel)) | (apply d_one 4; (focus decide +kernel)) | (apply d_one 5; (focus decide +kernel)) | (apply d_one 6; (focus decide +kernel)) | (apply d_one 7; (focus decide +kernel)) | (apply d_one 8; (focus decide +kernel)) | (apply d_one 9; (focus decide +kernel)) | (apply d_one 10; (focus decide +kernel)) | (apply d_one 11; (focus decide +kernel)) | (apply d_one 12; (focus decide +kernel)) | (apply d_one 13; (focus decide +kernel)) | (apply d_one 14; (focus decide +kernel)) | (apply d_one 15; (focus decide +kernel)) | (apply d_one 16; (focus decide +kernel)) | (apply d_one 17; (focus decide +kernel)))
      | (apply d_three 2 6 7; (focus decide +kernel))
      | (apply d_two 2 6; (focus decide +kernel))
      | (apply d_two 2 7; (focus decide +kernel))
      | (apply d_two 6 7; (focus decide +kernel))
      | (apply d_three 5 6 7; (focus decide +kernel))
      | (apply d_two 5 6; (focus decide +kernel))
      | (apply d_two 5 7; (focus decide +kernel))
      | (apply o_step; (iterate 3 (focus (simp only [go_sem, *]; (try rfl); done))); (focus rfl); simp only [putA])
      | (apply o_unw; (iterate 2 (focus (simp only [go_sem, *]; (try rfl); done))); (focus rfl); simp only [putA])
      | apply pr_nil | apply pr_same | apply pr_go | apply pl_nil | apply pl_none | (apply pl_skip; (focus decide +kernel)) | (apply pl_one; (focus (simp only [go_sem, *]; (try rfl); done)))
      | (apply o_call []; (iterate 2 (focus (simp only [go_sem, *]; (try rfl); done))); (focus rfl); (focus (simp only [go_sem, *]; (try rfl); done)); (focus rfl); (iterate 2 (focus (simp only [go_sem, *]; (try rfl); done))); (first | (apply hsh.out) | (apply hre1.out) | (apply hre2.out)); simp only [afterOp, putA])
    all_goals
      refine x_gen [1000000, 3, 5, 7, 8, 39] ?_
      simp only [agreeL, go_sem]
      first | exact key1 | exact key2
  all_goals
    rintro env ⟨e0, e3, e5, e7, e8, e39⟩
    repeat' first
      | apply x_seq | apply x_skip | apply x_block | apply x_exit | apply x_ret | apply x_ops_nil | apply p_blk | apply p_exit_it | apply p_exit_hit | apply p_ret_it | apply p_ret_blk | apply p_panic_it | apply p_panic_blk | apply p_end
      | (apply p_exit_miss; (focus rfl))
      | (apply x_region; simp only [List.toList_toArray])
      | (apply x_step0; (focus rfl); (focus (simp only [go_sem, *]; (try rfl); done)); (focus rfl); simp only [putA])
      | (apply x_callA []; (focus (simp only [go_sem, *]; (try rfl); done)); (focus rfl); (focus (simp only [go_sem, *]; (try rfl); done)); (focus rfl); (iterate 2 (focus (simp only [go_sem, *]; (try rfl); done))); (first | (apply hrl.out)); simp only [afterCall, putA])
      | (apply x_panic; (focus (simp only [go_sem, *]; (try rfl); done)); (focus rfl); (focus (simp only [go_sem, *]; (try rfl); done)))
      | (apply x_step; (iterate 2 (focus (simp only [go_sem, *]; (try rfl); done))); (focus rfl); simp only [putA])
      | (apply x_unwanted; (focus (simp only [go_sem, *]; (try rfl); done)); (focus rfl); simp only [putA])
      | (apply x_condT; (focus (simp only [go_sem, *]; (try rfl); done)))
      | (apply x_condF; (focus (simp only [go_sem, *]; (try rfl); done)))
      | (apply x_guardS; (focus rfl); (fail_if_success (focus (show _ = some true; (focus (simp only [go_sem, *]; (try rfl); done))))); (focus (simp only [go_sem, *]; (try rfl); done)); all_goals (intro hb; try simp only [Bool.not_eq_true', Bool.not_eq_false'] at hb))
      | (apply x_condS; (focus (simp only [go_sem, *]; (try rfl); done)); all_goals (intro hb; try simp only [Bool.not_eq_true', Bool.not_eq_false'] at hb))
      | (apply d_draw; (focus exact mixed); (focus ((simp only [List.size_toArray, List.length_cons, List.length_nil, Nat.reduceAdd]; try rfl); done)))
      | (apply d_done; (focus decide +kernel))
      | ((first | (apply d_take 0; (focus decide +kernel)) | (apply d_take 1; (focus decide +kernel)) | (apply d_take 2; (focus decide +kernel)) | (apply d_take 3; (focus decide +kernel)) | (apply d_take 4; (focus decide +kernel)) | (apply d_take 5; (focus decide +kernel)) | (apply d_take 6; (focus decide +kernel)) | (apply d_take 7; (focus decide +kernel)) | (apply d_take 8; (focus decide +kernel)) | (apply d_take 9; (focus decide +kernel)) | (apply d_take 10; (focus decide +kernel)) | (apply d_take 11; (focus decide +kernel)) | (apply d_take 12; (focus decide +kernel)) | (apply d_take 13; (focus decide +kernel)) | (apply d_take 14; (focus decide +kernel)) | (apply d_take 15; (focus decide +kernel)) | (apply d_take 16; (focus decide +kernel)) | (apply d_take 17; (focus decide +kernel))); (focus (first | exact qds_FPost | exact qds_RPost | exact qds_YB | assumption)); (focus rfl); (iterate 3 (focus (simp only [go_sem, *]; (try rfl); done))); (focus rfl); (focus (simp only [go_sem, *]; (try rfl); done)); simp only [putA])
      | ((first | (apply d_unw 0; (focus decide +kernel)) | (apply d_unw 1; (focus decide +kernel)) | (apply d_unw 2; (focus decide +kernel)) | (apply d_unw 3; (focus decide +kernel)) | (apply d_unw 4; (focus decide +kernel)) | (apply d_unw 5; (focus decide +kernel)) | (apply d_unw 6; (focus decide +kernel)) | (apply d_unw 7; (focus decide +kernel)) | (apply d_unw 8; (focus decide +kernel)) | (apply d_unw 9; (focus decide +kernel)) | (apply d_unw 10; (focus decide +kernel)) | (apply d_unw 11; (focus decide +kernel)) | (apply d_unw 12; (focus decide +kernel)) | (apply d_unw 13; (focus decide +kernel)) | (apply d_unw 14; (focus decide +kernel)) | (apply d_unw 15; (focus decide +kernel)) | (apply d_unw 16; (focus decide +kernel)) | (apply d_unw 17; (focus decide +kernel))); (focus (first | exact qds_FPost | exact qds_RPost | exact qds_YB | assumption)); (focus rfl); (iterate 2 (focus (simp only [go_sem, *]; (try rfl); done))); (focus rfl); simp only [putA])
      | (first | (apply d_one 0; (focus decide +kernel)) | (apply d_one 1; (focus decide +kernel)) | (apply d_one 2; (focus decide +kernel)) | (apply d_one 3; (focus decide +kernel)) | (apply d_one 4; (focus decide +kernel)) | (apply d_one 5; (focus decide +kernel)) | (apply d_one 6; (focus decide +kernel)) | (apply d_one 7; (focus decide +kernel)) | (apply d_one 8; (focus decide +kernel)) | (apply d_one 9; (focus decide +kernel)) | (apply d_one 10; (focus decide +kernel)) | (apply d_one 11; (focus decide +kernel)) | (apply d_one 12; (focus decide +kernel)) | (apply d_one 13; (focus decide +kernel)) | (apply d_one 14; (focus decide +kernel)) | (apply d_one 15; (focus decide +kernel)) | (apply d_one 16; (focus decide +kernel)) | (apply d_one 17; (focus decide +kernel)))
      | (apply o_step; (iterate 3 (focus (simp only [go_sem, *]; (try rfl); done))); (focus rfl); simp only [putA])
      | (apply o_unw; (iterate 2 (focus (simp only [go_sem, *]; (try rfl); done))); (focus rfl); simp only [putA])
      | apply pr_nil | apply pr_same | apply pr_go | apply pl_nil | apply pl_none | (apply pl_skip; (focus decide +kernel)) | (apply pl_one; (focus (simp only [go_sem, *]; (try rfl); done)))
      | (apply o_call []; (iterate 2 (focus (simp only [go_sem, *]; (try rfl); done))); (focus rfl); (focus (simp only [go_sem, *]; (try rfl); done)); (focus rfl); (iterate 2 (focus (simp only [go_sem, *]; (try rfl); done))); (first | (apply hrl.out)); simp only [afterOp, putA])
    refine x_gen [1000000, 5, 8, 9, 11, 53, 54] ?_
    intro env1 hA
    simp only [agreeL, go_sem, e0, e5, e8] at hA
    obtain ⟨q0, q5, q8, q9, q11, q53, q54⟩ := hA
    obtain ⟨fr, h11⟩ : ∃ fr : Int, env1 11 = .int .i64 fr := ⟨_, q11⟩
    clear q11 e0 e3 e5 e7 e8 e39
    refine x_genS ?_
    intro S0 hS0
    refine x_ind (fun (j : Nat) env S' => j ≤ 2 ∧ env 1000000 = .dfr [] ∧ env 5 = env1 5 ∧ env 8 = env1 8 ∧ env 9 = env1 9 ∧ env 11 = env1 11 ∧ env 53 = env1 53 ∧ env 54 = .int .i64 j ∧ S' = S0) (fun j => 2 - j) 0 ?_ ?_
    · exact ⟨by omega, q0, rfl, rfl, rfl, rfl, rfl, q54, rfl⟩
    · rintro j env S' ⟨hj, e0, e5, e8, e9, e11, e53, e54, hS⟩ IH
      have HI := Lib.hid IH
      have HS0 := Lib.hid hS0
      rw [hS, hS0]
      have QQ := Lib.hid (And.intro q5 (And.intro q8 (And.intro q9 (And.intro h11 q53))))
      rw [q5] at e5
      rw [q8] at e8
      rw [q9] at e9
      rw [h11] at e11
      rw [q53] at e53
      clear IH q0 q5 q8 q9 q53 q54 h11 hS hS0
      by_cases hj2 : j = 2
      · subst hj2
        repeat' first
          | apply x_seq | apply x_skip | apply x_block | apply x_exit | apply x_ret | apply x_ops_nil | apply p_blk | apply p_exit_it | apply p_exit_hit | apply p_ret_it | apply p_ret_blk | apply p_panic_it | apply p_panic_blk | apply p_end
          | (apply p_exit_miss; (focus rfl))
          | (apply x_region; simp only [List.toList_toArray])
          | (apply x_step0; (focus rfl); (focus (simp only [go_sem, *]; (try rfl); done)); (focus rfl); simp only [putA])
          | (apply x_callA []; (focus (simp only [go_sem, *]; (try rfl); done)); (focus rfl); (focus (simp only [go_sem, *]; (try rfl); done)); (focus rfl); (iterate 2 (focus (simp only [go_sem, *]; (try rfl); done))); (first | (apply hwo.out)); simp only [afterCall, putA])
          | (apply x_panic; (focus (simp only [go_sem, *]; (try rfl); done)); (focus rfl); (focus (simp only [go_sem, *]; (try rfl); done)))
          | (apply x_step; (iterate 2 (focus (simp only [go_sem, *]; (try rfl); done))); (focus rfl); simp only [putA])
          | (apply x_unwanted; (focus (simp only [go_sem, *]; (try rfl); done)); (focus rfl); simp only [putA])
          | (apply x_condT; (focus (simp only [go_sem, *]; (try rfl); done)))
          | (apply x_condF; (focus (simp only [go_sem, *]; (try rfl); done)))
          | (apply x_guardS; (focus rfl); (fail_if_success (focus (show _ = some true; (focus (simp only [go_sem, *]; (try rfl); done))))); (focus (simp only [go_sem, *]; (try rfl); done)); all_goals (intro hb; try simp only [Bool.not_eq_true', Bool.not_eq_false'] at hb))
          | (apply x_condS; (focus (simp only [go_sem, *]; (try rfl); done)); all_goals (intro hb; try simp only [Bool.not_eq_true', Bool.not_eq_false'] at hb))
        (apply f_ret; iterate 7 (focus (simp only [go_sem, *, Tryz.results4]; (try rfl); done)))
        exact h
      · obtain ⟨x, hxl, hsel⟩ : ∃ x : Rec, x.items.length ≤ 100 ∧ ((j = 0 ∧ x = r) ∨ (j = 1 ∧ x = a)) := by
          have hj3 : j = 0 ∨ j = 1 := by omega
          rcases hj3 with e | e
          · exact ⟨r, Hlr.out, .inl ⟨e, rfl⟩⟩
          · exact ⟨a, Hla.out, .inr ⟨e, rfl⟩⟩
        obtain ⟨CQ, CE, JQ, JE, GQ, GE, f1, f2, f3, f4, f5, f6, f7, f8, f9⟩ := Facts.out x hxl
        unfold Rec.av at f1 f2 f3 f4 f5 f6 f7 f8 f9
        replace f1 := Lib.hid f1
        replace f2 := Lib.hid f2
        replace f3 := Lib.hid f3
        replace f4 := Lib.hid f4
        replace f5 := Lib.hid f5
        replace f6 := Lib.hid f6
        replace f7 := Lib.hid f7
        replace f8 := Lib.hid f8
        replace f9 := Lib.hid f9
        clear hj hj2 hxl
        rcases hsel with ⟨rfl, hx⟩ | ⟨rfl, hx⟩
        all_goals
          subst hx
          repeat' first
            | apply x_seq | apply x_skip | apply x_block | apply x_exit | apply x_ret | apply x_ops_nil | apply p_blk | apply p_exit_it | apply p_exit_hit | apply p_ret_it | apply p_ret_blk | apply p_panic_it | apply p_panic_blk | apply p_end
            | (apply p_exit_miss; (focus rfl))
            | (apply x_region; simp only [List.toList_toArray])
            | (apply x_step0; (focus rfl); (focus (simp only [go_sem, *]; (try rfl); done)); (focus rfl); simp only [putA])
            | (apply x_panic; (focus (simp only [go_sem, *]; (try rfl); done)); (focus rfl); (focus (simp only [go_sem, *]; (try rfl); done)))
            | (apply x_step; (iterate 2 (focus (simp only [go_sem, *]; (try rfl); done))); (focus rfl); simp only [putA])
            | (apply x_unwanted; (focus (simp only [go_sem, *]; (try rfl); done)); (focus rfl); simp only [putA])
            | (apply x_condT; (focus (simp only [go_sem, *]; (try rfl); done)))
            | (apply x_condF; (focus (simp only [go_sem, *]; (try rfl); done)))
            | (apply x_guardS; (focus rfl); (fail_if_success (focus (show _ = some true; (focus (simp only [go_sem, *]; (try rfl); done))))); (focus (simp only [go_sem, *]; (try rfl); done)); all_goals (intro hb; try simp only [Bool.not_eq_true', Bool.not_eq_false'] at hb))
            | (apply x_condS; (focus (simp only [go_sem, *]; (try rfl); done)); all_goals (intro hb; try simp only [Bool.not_eq_true', Bool.not_eq_false'] at hb))
            | (apply d_draw; (focus exact mixed); (focus ((simp only [List.size_toArray, List.length_cons, List.length_nil, Nat.reduceAdd]; try rfl); done)))
            | (apply d_done; (focus decide +kernel))
            | ((first | (apply d_take 0; (focus decide +kernel)) | (apply d_take 1; (focus decide +kernel)) | (apply d_take 2; (focus decide +kernel)) | (apply d_take 3; (focus decide +kernel)) | (apply d_take 4; (focus decide +kernel)) | (apply d_take 5; (focus decide +kernel)) | (apply d_take 6; (focus decide +kernel)) | (apply d_take 7; (focus decide +kernel)) | (apply d_take 8; (focus decide +kernel)) | (apply d_take 9; (focus decide +kernel)) | (apply d_take 10; (focus decide +kernel)) | (apply d_take 11; (focus decide +kernel)) | (apply d_take 12; (focus decide +kernel)) | (apply d_take 13; (focus decide +kernel)) | (apply d_take 14; (focus decide +kernel)) | (apply d_take 15; (focus decide +kernel)) | (apply d_take 16; (focus decide +kernel)) | (apply d_take 17; (focus decide +kernel))); (focus (first | exact qds_FPost | exact qds_RPost | exact qds_YB | assumption)); (focus rfl); (iterate 3 (focus (simp only [go_sem, *]; (try rfl); done))); (focus rfl); (focus (simp only [go_sem, *]; (try rfl); done)); simp only [putA])
            | ((first | (apply d_unw 0; (focus decide +kernel)) | (apply d_unw 1; (focus decide +kernel)) | (apply d_unw 2; (focus decide +kernel)) | (apply d_unw 3; (focus decide +kernel)) | (apply d_unw 4; (focus decide +kernel)) | (apply d_unw 5; (focus decide +kernel)) | (apply d_unw 6; (focus decide +kernel)) | (apply d_unw 7; (focus decide +kernel)) | (apply d_unw 8; (focus decide +kernel)) | (apply d_unw 9; (focus decide +kernel)) | (apply d_unw 10; (focus decide +kernel)) | (apply d_unw 11; (focus decide +kernel)) | (apply d_unw 12; (focus decide +kernel)) | (apply d_unw 13; (focus decide +kernel)) | (apply d_unw 14; (focus decide +kernel)) | (apply d_unw 15; (focus decide +kernel)) | (apply d_unw 16; (focus decide +kernel)) | (apply d_unw 17; (focus decide +kernel))); (focus (first | exact qds_FPost | exact qds_RPost | exact qds_YB | assumption)); (focus rfl); (iterate 2 (focus (simp only [go_sem, *]; (try rfl); done))); (focus rfl); simp only [putA])
            | (first | (apply d_one 0; (focus decide +kernel)) | (apply d_one 1; (focus decide +kernel)) | (apply d_one 2; (focus decide +kernel)) | (apply d_one 3; (focus decide +kernel)) | (apply d_one 4; (focus decide +kernel)) | (apply d_one 5; (focus decide +kernel)) | (apply d_one 6; (focus decide +kernel)) | (apply d_one 7; (focus decide +kernel)) | (apply d_one 8; (focus decide +kernel)) | (apply d_one 9; (focus decide +kernel)) | (apply d_one 10; (focus decide +kernel)) | (apply d_one 11; (focus decide +kernel)) | (apply d_one 12; (focus decide +kernel)) | (apply d_one 13; (focus decide +kernel)) | (apply d_one 14; (focus decide +kernel)) | (apply d_one 15; (focus decide +kernel)) | (apply d_one 16; (focus decide +kernel)) | (apply d_one 17; (focus decide +kernel)))
            | (apply o_step; (iterate 3 (focus (simp only [go_sem, *]; (try rfl); done))); (focus rfl); simp only [putA])
            | (apply o_unw; (iterate 2 (focus (simp only [go_sem, *]; (try rfl); done))); (focus rfl); simp only [putA])
            | apply pr_nil | apply pr_same | apply pr_go | apply pl_nil | apply pl_none | (apply pl_skip; (focus decide +kernel)) | (apply pl_one; (focus (simp only [go_sem, *]; (try rfl); done)))
          refine x_gen [1000000, 5, 8, 9, 11, 13, 53, 54, 73, 74] ?_
          intro env2 hA
          simp only [agreeL, go_sem, e0, e5, e8, e9, e11, e53, e54] at hA
          obtain ⟨q0, q5, q8, q9, q11, q13, q53, q54, q73, q74⟩ := hA
          obtain ⟨a0, b0, a1, b1, a2, b2, h73⟩ : ∃ a0 b0 a1 b1 a2 b2 : Int, env2 73 = AV.agg [.int .i64 a0, .int .i64 b0, .int .i64 a1, .int .i64 b1, .int .i64 a2, .int .i64 b2] := ⟨_, _, _, _, _, _, q73⟩
          clear q73 e0 e5 e8 e9 e11 e53 e54
          refine x_genS ?_
          intro S1 hS1
          refine x_ind (fun (k : Nat) env' S' => k ≤ 3 ∧ env' 1000000 = .dfr [] ∧ env' 5 = env2 5 ∧ env' 8 = env2 8 ∧ env' 9 = env2 9 ∧ env' 11 = env2 11 ∧ env' 13 = env2 13 ∧ env' 53 = env2 53 ∧ env' 54 = env2 54 ∧ env' 73 = env2 73 ∧ env' 74 = .int .i64 k ∧ S' = S1) (fun k => 3 - k) 0 ?_ ?_
          · exact ⟨by omega, q0, rfl, rfl, rfl, rfl, rfl, rfl, rfl, rfl, q74, rfl⟩
          · rintro k env3 S3 ⟨hk, k0, k5', k8, k9, k11, k13, k53, k54, k73, k74, hS⟩ JH
            have HJ := Lib.hid JH
            have HS1 := Lib.hid hS1
            rw [hS, hS1]
            have QR := Lib.hid (And.intro q5 (And.intro q8 (And.intro q9 (And.intro q11 (And.intro q13 (And.intro q53 (And.intro q54 h73)))))))
            rw [q5] at k5'
            rw [q8] at k8
            rw [q9] at k9
            rw [q11] at k11
            rw [q13] at k13
            rw [q53] at k53
            rw [q54] at k54
            rw [h73] at k73
            clear JH q0 q5 q8 q9 q11 q13 q53 q54 h73 q74 hS hS1
            by_cases hk3 : k = 3
            · subst hk3
              clear hk HJ HS1 QR
              repeat' first
                | apply x_seq | apply x_skip | apply x_block | apply x_exit | apply x_ret | apply x_ops_nil | apply p_blk | apply p_exit_it | apply p_exit_hit | apply p_ret_it | apply p_ret_blk | apply p_panic_it | apply p_panic_blk | apply p_end
                | (apply p_exit_miss; (focus rfl))
                | (apply x_region; simp only [List.toList_toArray])
                | (apply x_step0; (focus rfl); (focus (simp only [go_sem, *]; (try rfl); done)); (focus rfl); simp only [putA])
                | (apply x_panic; (focus (simp only [go_sem, *]; (try rfl); done)); (focus rfl); (focus (simp only [go_sem, *]; (try rfl); done)))
                | (apply x_step; (iterate 2 (focus (simp only [go_sem, *]; (try rfl); done))); (focus rfl); simp only [putA])
                | (apply x_unwanted; (focus (simp only [go_sem, *]; (try rfl); done)); (focus rfl); simp only [putA])
                | (apply x_condT; (focus (simp only [go_sem, *]; (try rfl); done)))
                | (apply x_condF; (focus (simp only [go_sem, *]; (try rfl); done)))
                | (apply x_guardS; (focus rfl); (fail_if_success (focus (show _ = some true; (focus (simp only [go_sem, *]; (try rfl); done))))); (focus (simp only [go_sem, *]; (try rfl); done)); all_goals (intro hb; try simp only [Bool.not_eq_true', Bool.not_eq_false'] at hb))
                | (apply x_condS; (focus (simp only [go_sem, *]; (try rfl); done)); all_goals (intro hb; try simp only [Bool.not_eq_true', Bool.not_eq_false'] at hb))
              refine x_gen [1000000, 5, 8, 9, 11, 13, 53, 54, 109, 110] ?_
              intro env4 hA
              simp only [agreeL, go_sem, k0, k5', k8, k9, k11, k13, k53, k54] at hA
              obtain ⟨q0, q5, q8, q9, q11, q13, q53, q54, q109, q110⟩ := hA
              obtain ⟨w1, w2, h109⟩ : ∃ w1 w2 : Int, env4 109 = AV.agg [.int .i64 w1, .int .i64 w2] := ⟨_, _, q109⟩
              clear q109 k0 k5' k8 k9 k11 k13 k53 k54 k73 k74
              refine x_genS ?_
              intro S2 hS2
              refine x_ind (fun (k : Nat) env' S' => k ≤ 2 ∧ env' 1000000 = .dfr [] ∧ env' 5 = env4 5 ∧ env' 8 = env4 8 ∧ env' 9 = env4 9 ∧ env' 11 = env4 11 ∧ env' 13 = env4 13 ∧ env' 53 = env4 53 ∧ env' 54 = env4 54 ∧ env' 109 = env4 109 ∧ env' 110 = .int .i64 k ∧ S' = S2) (fun k => 2 - k) 0 ?_ ?_
              · exact ⟨by omega, q0, rfl, rfl, rfl, rfl, rfl, rfl, rfl, rfl, q110, rfl⟩
              · rintro k env5 S5 ⟨hk, k0, k5', k8, k9, k11, k13, k53, k54, k109, k110, hS⟩ JH
                have HJ := Lib.hid JH
                have HS2 := Lib.hid hS2
                rw [hS, hS2]
                have QR := Lib.hid (And.intro q5 (And.intro q8 (And.intro q9 (And.intro q11 (And.intro q13 (And.intro q53 (And.intro q54 h109)))))))
                rw [q5] at k5'
                rw [q8] at k8
                rw [q9] at k9
                rw [q11] at k11
                rw [q13] at k13
                rw [q53] at k53
                rw [q54] at k54
                rw [h109] at k109
                clear JH q0 q5 q8 q9 q11 q13 q53 q54 h109 q110 hS hS2
                by_cases hk2 : k = 2
                · subst hk2
                  clear hk HJ HS2 QR
                  repeat' first
                    | apply x_seq | apply x_skip | apply x_block | apply x_exit | apply x_ret | apply x_ops_nil | apply p_blk | apply p_exit_it | apply p_exit_hit | apply p_ret_it | apply p_ret_blk | apply p_panic_it | apply p_panic_blk | apply p_end
                    | (apply p_exit_miss; (focus rfl))
                    | (apply x_region; simp only [List.toList_toArray])
                    | (apply x_step0; (focus rfl); (focus (simp only [go_sem, *]; (try rfl); done)); (focus rfl); simp only [putA])
                    | (apply x_panic; (focus (simp only [go_sem, *]; (try rfl); done)); (focus rfl); (focus (simp only [go_sem, *]; (try rfl); done)))
                    | (apply x_step; (iterate 2 (focus (simp only [go_sem, *]; (try rfl); done))); (focus rfl); simp only [putA])
                    | (apply x_unwanted; (focus (simp only [go_sem, *]; (try rfl); done)); (focus rfl); simp only [putA])
                    | (apply x_condT; (focus (simp only [go_sem, *]; (try rfl); done)))
                    | (apply x_condF; (focus (simp only [go_sem, *]; (try rfl); done)))
                    | (apply x_guardS; (focus rfl); (fail_if_success (focus (show _ = some true; (focus (simp only [go_sem, *]; (try rfl); done))))); (focus (simp only [go_sem, *]; (try rfl); done)); all_goals (intro hb; try simp only [Bool.not_eq_true', Bool.not_eq_false'] at hb))
                    | (apply x_condS; (focus (simp only [go_sem, *]; (try rfl); done)); all_goals (intro hb; try simp only [Bool.not_eq_true', Bool.not_eq_false'] at hb))
                  refine x_keep hO 5 [5, 8, 9, 11, 53, 54] rfl (by (simp only [go_sem, *]; try rfl)) (by (simp only [go_sem, *]; try rfl)) (by (simp only [go_sem, *]; try rfl)) ?_
                  simp only [List.take_succ_cons, List.take_zero]
                  have qq := QQ.out
                  first
                  | refine HI.out 1 _ _ (by decide) ⟨by decide, ?_, ?_, ?_, ?_, ?_, ?_, ?_, HS0.out.symm⟩
                  | refine HI.out 2 _ _ (by decide) ⟨by decide, ?_, ?_, ?_, ?_, ?_, ?_, ?_, HS0.out.symm⟩
                  all_goals (simp only [go_sem, *]; try rfl)
                · have hk4 : k = 0 ∨ k = 1 := by omega
                  clear hk hk2
                  rcases hk4 with rfl | rfl
                  all_goals
                    repeat' first
                      | apply x_seq | apply x_skip | apply x_block | apply x_exit | apply x_ret | apply x_ops_nil | apply p_blk | apply p_exit_it | apply p_exit_hit | apply p_ret_it | apply p_ret_blk | apply p_panic_it | apply p_panic_blk | apply p_end
                      | (apply p_exit_miss; (focus rfl))
                      | (apply x_region; simp only [List.toList_toArray])
                      | (apply x_step0; (focus rfl); (focus (simp only [go_sem, *]; (try rfl); done)); (focus rfl); simp only [putA])
                      | (apply x_callA []; (focus (simp only [go_sem, *]; (try rfl); done)); (focus rfl); (focus (simp only [go_sem, *]; (try rfl); done)); (focus rfl); (iterate 2 (focus (simp only [go_sem, *]; (try rfl); done))); (first | (apply f4.out) | (apply f5.out) | (apply f6.out) | (apply f7.out) | (apply f8.out) | (apply f9.out)); simp only [afterCall, putA])
                      | (apply x_panic; (focus (simp only [go_sem, *]; (try rfl); done)); (focus rfl); (focus (simp only [go_sem, *]; (try rfl); done)))
                      | (apply x_step; (iterate 2 (focus (simp only [go_sem, *]; (try rfl); done))); (focus rfl); simp only [putA])
                      | (apply x_unwanted; (focus (simp only [go_sem, *]; (try rfl); done)); (focus rfl); simp only [putA])
                      | (apply x_condT; (focus (simp only [go_sem, *]; (try rfl); done)))
                      | (apply x_condF; (focus (simp only [go_sem, *]; (try rfl); done)))
                      | (apply x_guardS; (focus rfl); (fail_if_success (focus (show _ = some true; (focus (simp only [go_sem, *]; (try rfl); done))))); (focus (simp only [go_sem, *]; (try rfl); done)); all_goals (intro hb; try simp only [Bool.not_eq_true', Bool.not_eq_false'] at hb))
                      | (apply x_condS; (focus (simp only [go_sem, *]; (try rfl); done)); all_goals (intro hb; try simp only [Bool.not_eq_true', Bool.not_eq_false'] at hb))
                    refine x_keep hO 6 [5, 8, 9, 11, 13, 53, 54, 109, 110] rfl (by (simp only [go_sem, *]; try rfl)) (by (simp only [go_sem, *]; try rfl)) (by (simp only [go_sem, *]; try rfl)) ?_
                    simp only [List.take_succ_cons, List.take_zero]
                    have qr := QR.out
                    first
                    | refine HJ.out 1 _ _ (by decide) ⟨by decide, ?_, ?_, ?_, ?_, ?_, ?_, ?_, ?_, ?_, ?_, HS2.out.symm⟩
                    | refine HJ.out 2 _ _ (by decide) ⟨by decide, ?_, ?_, ?_, ?_, ?_, ?_, ?_, ?_, ?_, ?_, HS2.out.symm⟩
                    all_goals (simp only [go_sem, *]; try rfl)
            · have hk4 : k = 0 ∨ k = 1 ∨ k = 2 := by omega
              clear hk hk3
              rcases hk4 with rfl | rfl | rfl
              all_goals
                repeat' first
                  | apply x_seq | apply x_skip | apply x_block | apply x_exit | apply x_ret | apply x_ops_nil | apply p_blk | apply p_exit_it | apply p_exit_hit | apply p_ret_it | apply p_ret_blk | apply p_panic_it | apply p_panic_blk | apply p_end
                  | (apply p_exit_miss; (focus rfl))
                  | (apply x_region; simp only [List.toList_toArray])
                  | (apply x_step0; (focus rfl); (focus (simp only [go_sem, *]; (try rfl); done)); (focus rfl); simp only [putA])
                  | (apply x_callA []; (focus (simp only [go_sem, *]; (try rfl); done)); (focus rfl); (focus (simp only [go_sem, *]; (try rfl); done)); (focus rfl); (iterate 2 (focus (simp only [go_sem, *]; (try rfl); done))); (first | (apply f1.out) | (apply f2.out) | (apply f3.out)); simp only [afterCall, putA])
                  | (apply x_panic; (focus (simp only [go_sem, *]; (try rfl); done)); (focus rfl); (focus (simp only [go_sem, *]; (try rfl); done)))
                  | (apply x_step; (iterate 2 (focus (simp only [go_sem, *]; (try rfl); done))); (focus rfl); simp only [putA])
                  | (apply x_unwanted; (focus (simp only [go_sem, *]; (try rfl); done)); (focus rfl); simp only [putA])
                  | (apply x_condT; (focus (simp only [go_sem, *]; (try rfl); done)))
                  | (apply x_condF; (focus (simp only [go_sem, *]; (try rfl); done)))
                  | (apply x_guardS; (focus rfl); (fail_if_success (focus (show _ = some true; (focus (simp only [go_sem, *]; (try rfl); done))))); (focus (simp only [go_sem, *]; (try rfl); done)); all_goals (intro hb; try simp only [Bool.not_eq_true', Bool.not_eq_false'] at hb))
                  | (apply x_condS; (focus (simp only [go_sem, *]; (try rfl); done)); all_goals (intro hb; try simp only [Bool.not_eq_true', Bool.not_eq_false'] at hb))
                refine x_keep hO 6 [5, 8, 9, 11, 13, 53, 54, 73, 74] rfl (by (simp only [go_sem, *]; try rfl)) (by (simp only [go_sem, *]; try rfl)) (by (simp only [go_sem, *]; try rfl)) ?_
                simp only [List.take_succ_cons, List.take_zero]
                have qr := QR.out
                first
                | refine HJ.out 1 _ _ (by decide) ⟨by decide, ?_, ?_, ?_, ?_, ?_, ?_, ?_, ?_, ?_, ?_, HS1.out.symm⟩
                | refine HJ.out 2 _ _ (by decide) ⟨by decide, ?_, ?_, ?_, ?_, ?_, ?_, ?_, ?_, ?_, ?_, HS1.out.symm⟩
                | refine HJ.out 3 _ _ (by decide) ⟨by decide, ?_, ?_, ?_, ?_, ?_, ?_, ?_, ?_, ?_, ?_, HS1.out.symm⟩
                all_goals (simp only [go_sem, *]; try rfl)
end Go.Proofs.YtnndmokndgnidaaGreatDoor
namespace Go.Proofs.YtnndmokndgnidaaGreatDoor
open Go Go.Fen
set_option linter.unusedSimpArgs false
set_option linter.unusedVariables false
attribute [local irreducible] RunX WP ACall AnyP OpA ProtL
set_option maxRecDepth 8000
def pairSk : Sk := .cons (.int .i64) (.cons (.int .i64) .nil)
theorem open_pair (y : List AV) (h : pairSk.has y) : ∃ a b : Int, pairSk.mk y = .agg [.int .i64 a, .int .i64 b] := by
  obtain ⟨_, _, rfl, ⟨a, rfl, _⟩, _, _, rfl, ⟨b, rfl, _⟩, rfl⟩ := h
  exact ⟨a, b, rfl⟩
def draft2Sk : Sk := .cons draftSk (.cons draftSk .nil)
theorem open_draft2 (y : List AV) (h : draft2Sk.has y) : ∃ d d2 : Dr, draft2Sk.mk y = .agg [.int .u8 d.cols, .int .u8 d.rows, .sval false (d.items.map DIt.av), .int .u8 d2.cols, .int .u8 d2.rows, .sval false (d2.items.map DIt.av)] := by
  obtain ⟨ya, _, rfl, ha, yb, _, rfl, hb, rfl⟩ := h
  obtain ⟨d, hd⟩ := open_draft ya ha
  obtain ⟨d2, hd2⟩ := open_draft yb hb
  have e1 : ya = _ := AV.agg.inj (show AV.agg ya = d.av from hd)
  have e2 : yb = _ := AV.agg.inj (show AV.agg yb = d2.av from hd2)
  refine ⟨d, d2, ?_⟩
  rw [e1, e2]
  rfl
namespace RecordCuts
theorem contract (H : Type) (enc : TypeId × Value → H) (W : World) (base : Nat) (args : Array Value) (ds gs : List (DataW H)) (before : List MemPlace)
    (hval : ∀ (j : Nat) t v, Tryz.f4.params[j]? = some t → args[j]? = some v → Value.okWide Tryz.prog W .any base t v)
    (hW : DataW.Whole enc Tryz.prog Tryz.f4.params.toList Rows.recordCutsSpec.vars false W args.toList ds gs before) (hL : laidMetH Tryz.prog seatLaid W) :
    Calls Tryz.prog 4 args W fun e W' => ∃ v, e = .returned v ∧ Rows.recordCutsSpec.post enc Tryz.prog Tryz.f4 false true false false W args v W' := by
  refine law_close (n := 20) (tb := 4) [recSk, draft2Sk, pairSk] laidOut ?_ (by rw [Tryz.params4]; kernel_rfl) (by kernel_rfl) un_4 rfl ?_ hW hval ?_
  · rw [Tryz.params4]
    have : ([24, 46, 47].all fun t => Tryz.prog.readableRec t && decide (t < Tryz.prog.types.size)) = true := by kernel_rfl
    intro t ht
    simpa using List.all_eq_true.1 this t (by simpa using ht)
  · intro h
    rw [Tryz.params4] at h
    match ds, h with
    | [d1, d2, d3], _ => rfl
  · intro avs ha
    obtain ⟨y1, r1, h1, e1, ha1⟩ := ArgsH.cons' ha
    obtain ⟨y2, r2, h2, e2, ha2⟩ := ArgsH.cons' ha1
    obtain ⟨y3, r3, h3, e3, ha3⟩ := ArgsH.cons' ha2
    have e4 := ArgsH.nil' ha3
    rw [e1, e2, e3, e4]
    obtain ⟨r, hr⟩ := open_rec y1 h1
    obtain ⟨d, d2, hd⟩ := open_draft2 y2 h2
    obtain ⟨a, b, hp⟩ := open_pair y3 h3
    rw [hr, hd, hp]
    exact cutsLaw W (tab_of hL) (syn_of hL) [] r d d2 a b _ rfl
def wit : Array Value := #[.agg #[.int .i64 0, .int .i64 0, .slice none 0 0], .agg #[.int .u8 0, .int .u8 0, .slice none 0 0, .int .u8 0, .int .u8 0, .slice none 0 0], .agg #[.int .i64 0, .int .i64 0]]
set_option maxRecDepth 100000 in
theorem lifted (os : Os) (started : os.Started) (H : Type) (enc : TypeId × Value → H) :
    ReturnsInHanded {} Tryz.checked os 4 .any (fun w args => (Rows.recordCutsSpec.pre enc Tryz.prog Tryz.f4 Rows.recordCutsRow.domain false w args ∧ laidMetH Tryz.prog seatLaid w) ∧ sizedMet enc Tryz.prog Tryz.f4 (OpenSpec.ofChange Rows.recordCutsSpec) false w args)
      (Rows.recordCutsSpec.post enc Tryz.prog Tryz.f4 false true false false) := by
  refine returnsInHanded_of_change_and (C := Tryz.checked) (X := fun w _ => laidMetH Tryz.prog seatLaid w) (fun _ _ _ hh h => h.of_heap hh) own started (by kernel_rfl) Tryz.func4
    (ChangeSpec.witness_shaped (enc := enc) (C := Tryz.checked) (os := os) (X := fun w _ => laidMetH Tryz.prog seatLaid w) false (World.laidAll Tryz.prog os seatLaid) wit 8 (World.laidAll_os _ _ _)
      (World.shaped_of_ZipB (by kernel_rfl) (by kernel_rfl)) (by kernel_rfl) (by kernel_rfl) (by kernel_rfl)
      (by rw [MakeChecks.laidMetH_plain _ _ _ (by kernel_rfl)]; exact laidMet_laidAll _ (by kernel_rfl) (by kernel_rfl))) ?_
  intro W base args ds gs before hval hW _ _ hL _
  exact contract H enc W base args ds gs before hval hW hL
theorem said : Rows.RecordCutsSaid :=
  OpenClaim.holds_of_wide 4 Tryz.f4 rfl rfl rfl rfl rfl rfl rfl ⟨rfl, rfl, rfl, rfl, rfl⟩ rfl rfl rfl rfl rfl (by kernel_rfl) Tryz.func4 (by kernel_rfl)
    (of_decide_eq_true (by kernel_rfl)) (by unfold Func.isWrapper; first | (rw [if_pos (by decide +kernel)]; kernel_rfl) | (rw [if_neg (by decide +kernel)]; exact ⟨rfl, rfl⟩))
    (fun os started H enc _ => lifted os started H enc)
theorem plainF (f : FuncId) (fn : Func) (hf : Tryz.pinned.checked.prog.funcNamed "fenestra/fenestralaw42.RecordCuts" = some f) (hfn : Tryz.pinned.checked.prog.funcs[f]? = some fn) :
    true = Tryz.pinned.checked.prog.looks [] ∧ ∀ (j : Nat) t, fn.params[j]? = some t → Tryz.pinned.checked.prog.wantsStandIn t = false := by
  obtain rfl : f = 4 := Option.some.inj ((show Tryz.prog.funcNamed "fenestra/fenestralaw42.RecordCuts" = some 4 by kernel_rfl).symm.trans hf) |>.symm
  obtain rfl : fn = Tryz.f4 := (Option.some.inj (Tryz.func4.symm.trans hfn)).symm
  refine ⟨by kernel_rfl, fun j t ht => ?_⟩
  rw [Tryz.params4] at ht
  have hm : t ∈ [24, 46, 47] := by simpa using Array.mem_of_getElem? ht
  have hall : ([24, 46, 47].all fun u => !Tryz.prog.wantsStandIn u) = true := by kernel_rfl
  exact (show Tryz.prog.wantsStandIn t = false by simpa using List.all_eq_true.1 hall t hm)
theorem card : Rows.RecordCutsCardSaid :=
  Claim7.holds_tied_plain_at .later [] _ _ _ _ said (fun _ h => by cases h) (by kernel_rfl) (fun _ h => by cases h) recordCuts_row_tie rfl ⟨rfl, rfl⟩ (by kernel_rfl) rfl plainF (by kernel_rfl)
end RecordCuts
end Go.Proofs.YtnndmokndgnidaaGreatDoor
