/- YtnndmokndgnidaaGreatDoorWalk3. Texts of the proof of a law about recordings: a layer of abstract values above the worlds, the types, the walks of the functions that the law reaches, the law and its card. Own work of an AI agent. -/
import Derived.Test.YtnndmokndgnidaaGreatDoorWalk2
import Derived.Test.YtnndmokndgnidaaGreatDoorCore1
import Derived.Shelf.Strconv.ToError
import Derived.Test.YtnndmokndgnidaaGreatDoorShelf
import Derived.Test.YtnndmokndgnidaaGreatDoorWalk0
import Derived.Shelf.Strings.Repeat
import Derived.Shelf.Spec.SlicesGrow
import Derived.Test.YtnndmokndgnidaaGreatDoorCards
import Derived.Test.YtnndmokndgnidaaGreatDoorTie
import Derived.ProofKit
import Derived.OpenShut
import Derived.LaidMore
import Derived.Lay
import Derived.SevenTiedAt
import Derived.Stop.Joined
set_option linter.all false
set_option linter.unusedVariables false
set_option linter.unusedSimpArgs false
namespace Go.Proofs.YtnndmokndgnidaaGreatDoor
open Go Go.Fen
set_option linter.unusedSimpArgs false
set_option linter.unusedVariables false
attribute [local irreducible] RunX WP ACall AnyP OpA ProtL
set_option maxRecDepth 8000
theorem or32 (c : UInt8) : IntKind.u8.wrap (↑(BitVec.ofInt IntKind.u8.bits (c.toNat : Int) ||| BitVec.ofInt IntKind.u8.bits 32).toNat) = (((c ||| 32).toNat : Nat) : Int) := by
  have : ∀ n : Nat, n < 256 → IntKind.u8.wrap (↑(BitVec.ofInt IntKind.u8.bits (n : Int) ||| BitVec.ofInt IntKind.u8.bits 32).toNat) = (((UInt8.ofNat n ||| 32).toNat : Nat) : Int) := by decide +kernel
  have h := this c.toNat c.toNat_lt
  rwa [UInt8.ofNat_toNat] at h
set_option maxHeartbeats 400000 in
theorem lower (w0 : World) (S : List Blk) (c : UInt8) (R : AOut → List Blk → Prop) (h : R (.ret (.int .u8 ((c ||| 32).toNat : Nat))) S) : ACall Tryz.prog w0 110 [.int .u8 c.toNat] S R := by
  have g := or32 c
  simp only [IntKind.bits] at g
  refine enter Tryz.func110 rfl (by decide +kernel) (by rw [Tryz.ntmps110]; simp) (by rw [Tryz.ntmps110]; decide) (fun hO => ?_); rw [Tryz.ntmps110]
  repeat' first
    | apply x_seq | apply x_skip | apply x_block | apply x_exit | apply x_ret | apply x_ops_nil | apply p_blk | apply p_exit_it | apply p_exit_hit | apply p_ret_it | apply p_ret_blk | apply p_panic_it | apply p_panic_blk | apply p_end
    | (apply p_exit_miss; (focus rfl))
    | (apply x_region; simp only [List.toList_toArray])
    | (apply x_step0; (focus rfl); (focus (simp only [go_sem, *]; (try rfl); done)); (focus rfl); simp only [putA])
    | (apply x_panic; (focus (simp only [go_sem, *]; (try rfl); done)); (focus rfl); (focus (simp only [go_sem, *]; (try rfl); done)))
    | (apply x_step; (iterate 2 (focus (simp only [go_sem, *]; (try rfl); done))); (focus rfl); simp only [putA])
    | (apply x_unwanted; (focus (simp only [go_sem, *]; (try rfl); done)); (focus rfl); simp only [putA])
    | (apply x_condT; (focus (simp only [go_sem, *]; (try rfl); done)))
    | (apply x_condF; (focus (simp only [go_sem, *]; (try rfl); done)))
    | (apply x_guardS; (focus rfl); (fail_if_success (focus (show _ = some true; (focus (simp only [go_sem, *]; (try rfl); done))))); (focus (simp only [go_sem, *]; (try rfl); done)); all_goals (intro hb; try simp only [Bool.not_eq_true', Bool.not_eq_false'] at hb))
    | (apply x_condS; (focus (simp only [go_sem, *]; (try rfl); done)); all_goals (intro hb; try simp only [Bool.not_eq_true', Bool.not_eq_false'] at hb))
  (apply f_ret; iterate 7 (focus (simp only [go_sem, *, Tryz.results110]; (try rfl); done)))
  exact h
def lowN (b : UInt8) : Nat := (b ||| 32).toNat
def dv (b : UInt8) : Option Nat := if 48 ≤ b.toNat ∧ b.toNat ≤ 57 then some (b.toNat - 48) else if 97 ≤ lowN b ∧ lowN b ≤ 122 then some (lowN b - 87) else none
theorem dv_hex (b : UInt8) : hexD1 b = (dv b).bind fun d => if d < 16 then some d else none := by
  have : ∀ n : Nat, n < 256 → hexD1 (UInt8.ofNat n) = (dv (UInt8.ofNat n)).bind fun d => if d < 16 then some d else none := by decide +kernel
  have h := this b.toNat b.toNat_lt
  rwa [UInt8.ofNat_toNat] at h
theorem lower2 (w0 : World) (S : List Blk) (c : UInt8) (R : AOut → List Blk → Prop) (h : R (.ret (.int .u8 (lowN c : Nat))) S) : ACall Tryz.prog w0 110 [.int .u8 c.toNat] S R := lower w0 S c R h
def synV : AV := .ifc 155 (.int .i64 2)
def puS (b1 b2 : UInt8) (i acc : Nat) : Prop := (i = 0 ∧ acc = 0) ∨ (i = 1 ∧ hexD1 b1 = some acc) ∨ (i = 2 ∧ hexV b1 b2 = some acc)
theorem pu_step {b1 b2 : UInt8} {i acc : Nat} (hp : (i = 0 ∧ acc = 0) ∨ (i = 1 ∧ hexD1 b1 = some acc)) : ∃ b : UInt8, [AV.int .u8 b1.toNat, AV.int .u8 b2.toNat][i]? = some (.int .u8 b.toNat) ∧ i < 2 ∧ acc < 16 ∧ (hexD1 b = none → hexV b1 b2 = none) ∧ (∀ d, hexD1 b = some d → puS b1 b2 (i + 1) (acc * 16 + d)) := by
  rcases hp with ⟨rfl, rfl⟩ | ⟨rfl, ha⟩
  · exact ⟨b1, rfl, by omega, by omega, fun h => by simp [hexV, h], fun d h => .inr (.inl ⟨rfl, by simpa using h⟩)⟩
  · refine ⟨b2, rfl, by omega, hexD1_lt ha, fun h => by simp [hexV, ha, h], fun d h => .inr (.inr ⟨rfl, ?_⟩)⟩
    simp [hexV, ha, h]; try omega
set_option maxHeartbeats 4000000 in
theorem puIn (w0 : World) (S : List Blk) (b1 b2 : UInt8) (R : AOut → List Blk → Prop) (h : R (.ret (match hexV b1 b2 with | some v => .tup [.int .u64 v, .inil] | none => .tup [.int .u64 0, synV])) S) :
    ACall Tryz.prog w0 99 [.str [b1, b2], .int .i64 16, .int .i64 8] S R := by
  refine enter Tryz.func99 rfl (by decide +kernel) (by rw [Tryz.ntmps99]; simp) (by rw [Tryz.ntmps99]; decide) (fun hO => ?_); rw [Tryz.ntmps99]
  repeat' first
    | apply x_seq | apply x_skip | apply x_block | apply x_exit | apply x_ret | apply x_ops_nil | apply p_blk | apply p_exit_it | apply p_exit_hit | apply p_ret_it | apply p_ret_blk | apply p_panic_it | apply p_panic_blk | apply p_end
    | (apply p_exit_miss; (focus rfl))
    | (apply x_region; simp only [List.toList_toArray])
    | (apply x_step0; (focus rfl); (focus (simp only [go_sem, *]; (try rfl); done)); (focus rfl); simp only [putA])
    | (apply x_panic; (focus (simp only [go_sem, *]; (try rfl); done)); (focus rfl); (focus (simp only [go_sem, *]; (try rfl); done)))
    | (apply x_step; (iterate 2 (focus (simp only [go_sem, *]; (try rfl); done))); (focus rfl); simp only [putA])
    | (apply x_unwanted; (focus (simp only [go_sem, *]; (try rfl); done)); (focus rfl); simp only [putA])
    | (apply x_condT; (focus (simp only [go_sem, *]; (try rfl); done)))
    | (apply x_condF; (focus (simp only [go_sem, *]; (try rfl); done)))
    | (apply x_guardS; (focus rfl); (fail_if_success (focus (show _ = some true; (focus (simp only [go_sem, *]; (try rfl); done))))); (focus (simp only [go_sem, *]; (try rfl); done)); all_goals (intro hb; try simp only [Bool.not_eq_true', Bool.not_eq_false'] at hb))
    | (apply x_condS; (focus (simp only [go_sem, *]; (try rfl); done)); all_goals (intro hb; try simp only [Bool.not_eq_true', Bool.not_eq_false'] at hb))
  apply x_bytes
  · (simp only [go_sem, *]; try rfl)
  · rfl
  · (simp only [go_sem, *]; try rfl)
  · (simp only [go_sem, *]; try rfl)
  · (simp only [go_sem, *]; try rfl)
  · (simp only [go_sem, *]; try rfl)
  · rfl
  simp only [putA, List.map_cons, List.map_nil, byteAV]
  repeat' first
    | apply x_seq | apply x_skip | apply x_block | apply x_exit | apply x_ret | apply x_ops_nil | apply p_blk | apply p_exit_it | apply p_exit_hit | apply p_ret_it | apply p_ret_blk | apply p_panic_it | apply p_panic_blk | apply p_end
    | (apply p_exit_miss; (focus rfl))
    | (apply x_region; simp only [List.toList_toArray])
    | (apply x_step0; (focus rfl); (focus (simp only [go_sem, *]; (try rfl); done)); (focus rfl); simp only [putA])
    | (apply x_panic; (focus (simp only [go_sem, *]; (try rfl); done)); (focus rfl); (focus (simp only [go_sem, *]; (try rfl); done)))
    | (apply x_step; (iterate 2 (focus (simp only [go_sem, *]; (try rfl); done))); (focus rfl); simp only [putA])
    | (apply x_unwanted; (focus (simp only [go_sem, *]; (try rfl); done)); (focus rfl); simp only [putA])
    | (apply x_condT; (focus (simp only [go_sem, *]; (try rfl); done)))
    | (apply x_condF; (focus (simp only [go_sem, *]; (try rfl); done)))
    | (apply x_guardS; (focus rfl); (fail_if_success (focus (show _ = some true; (focus (simp only [go_sem, *]; (try rfl); done))))); (focus (simp only [go_sem, *]; (try rfl); done)); all_goals (intro hb; try simp only [Bool.not_eq_true', Bool.not_eq_false'] at hb))
    | (apply x_condS; (focus (simp only [go_sem, *]; (try rfl); done)); all_goals (intro hb; try simp only [Bool.not_eq_true', Bool.not_eq_false'] at hb))
  have hffw : IntKind.u64.wrap (IntKind.u64.wrap (1 * 2 ^ min (IntKind.u64.wrap 8).toNat 64) - 1) = 255 := by decide +kernel
  refine x_ind (fun (p : Nat × Nat) env S' => puS b1 b2 p.1 p.2 ∧ env 1000000 = .dfr [] ∧ env 1 = .int .i64 16 ∧ env 8 = .bool false ∧ env 9 = .str [b1, b2] ∧ env 10 = .int .u64 1152921504606846976 ∧ env 11 = .int .u64 255 ∧ env 12 = .bool false ∧ env 13 = .int .u64 p.2 ∧
    env 99 = .sval false [.int .u8 b1.toNat, .int .u8 b2.toNat] ∧ env 100 = .int .i64 2 ∧ env 101 = .int .i64 p.1 ∧ S' = S) (fun p => 2 - p.1) (0, 0) ?_ ?_
  · exact ⟨.inl ⟨rfl, rfl⟩, by (simp only [go_sem, *]; try rfl), by (simp only [go_sem, *]; try rfl), by (simp only [go_sem, *]; try rfl), by (simp only [go_sem, *]; try rfl), by (simp only [go_sem, *]; try rfl), by (simp only [go_sem, *]; try rfl), by (simp only [go_sem, *]; try rfl), by (simp only [go_sem, *]; try rfl), by (simp only [go_sem, *]; try rfl), by (simp only [go_sem, *]; try rfl), by (simp only [go_sem, *]; try rfl), rfl⟩
  · rintro ⟨i, acc⟩ env S' ⟨hp, e0, f1, f8, f9, f10, f11, f12, f13, f99, f100, f101, rfl⟩ IH
    have HI := Lib.hid IH
    have hw16 : IntKind.u8.wrap 16 = 16 := by decide
    have hw16' : IntKind.u64.wrap 16 = 16 := by decide
    have hlw := lower2 w0
    clear IH hffw
    simp only at f13 f101
    rcases or_assoc.2 hp with hp | ⟨rfl, ha⟩
    · have hps := pu_step (b2 := b2) hp
      clear hp
      obtain ⟨b, hb, hlt, hacc, hnone, hsome⟩ := hps
      have h1 : decide ((i : Int) < 2) = true := by simp; omega
      have hwi : IntKind.i64.wrap ((i : Int) + 1) = ((i + 1 : Nat) : Int) := by rw [IntWalk.i64_in _ (by omega)]; rfl
      have Hlt := Lib.hid hlt
      have d5 : decide ((1152921504606846976 : Int) ≤ (acc : Int)) = false := by simp; omega
      have w5 : IntKind.u64.wrap ((acc : Int) * 16) = ((acc * 16 : Nat) : Int) := by rw [IntWalk.u64_in _ (by omega)]; omega
      have key : ∀ d : Nat, d < 16 → IntKind.u64.wrap (d : Int) = (d : Int) ∧ IntKind.u64.wrap (((acc * 16 : Nat) : Int) + (d : Int)) = ((acc * 16 + d : Nat) : Int) ∧ decide (((acc * 16 + d : Nat) : Int) < ((acc * 16 : Nat) : Int)) = false ∧ decide ((255 : Int) < ((acc * 16 + d : Nat) : Int)) = false := by
        intro d hd
        refine ⟨IntWalk.u64_in _ (by omega), by rw [IntWalk.u64_in _ (by omega)]; omega, by simp; omega, by simp; omega⟩
      clear hlt hacc
      have Hnone := Lib.hid hnone
      have Hsome := Lib.hid hsome
      clear hnone hsome
      have Key := Lib.hid key
      clear key
      have hdv := dv_hex b
      by_cases c1 : 48 ≤ b.toNat ∧ b.toNat ≤ 57
      · have d1 : decide ((48 : Int) ≤ (b.toNat : Int)) = true := by simp; omega
        have d2 : decide ((b.toNat : Int) ≤ 57) = true := by simp; omega
        have d3 : ((b.toNat : Int) == 95) = false := by simp; omega
        have w1 : IntKind.u8.wrap ((b.toNat : Int) - 48) = ((b.toNat - 48 : Nat) : Int) := by rw [IntWalk.u8_in _ (by omega)]; omega
        have hd : hexD1 b = some (b.toNat - 48) := by rw [hdv]; simp [dv, c1]; omega
        have hd16 : b.toNat - 48 < 16 := by omega
        have d4 : decide ((16 : Int) ≤ ((b.toNat - 48 : Nat) : Int)) = false := by simp; omega
        clear hdv c1
        generalize hdd : b.toNat - 48 = d at *
        obtain ⟨k1, k2, k3, k4⟩ := Key.out d hd16
        have Hd := Lib.hid hd
        clear hdd hd hd16
        repeat' first
          | apply x_seq | apply x_skip | apply x_block | apply x_exit | apply x_ret | apply x_ops_nil | apply p_blk | apply p_exit_it | apply p_exit_hit | apply p_ret_it | apply p_ret_blk | apply p_panic_it | apply p_panic_blk | apply p_end
          | (apply p_exit_miss; (focus rfl))
          | (apply x_region; simp only [List.toList_toArray])
          | (apply x_step0; (focus rfl); (focus (simp only [go_sem, *]; (try rfl); done)); (focus rfl); simp only [putA])
          | (apply x_callA []; (focus (simp only [go_sem, *]; (try rfl); done)); (focus rfl); (focus (simp only [go_sem, *]; (try rfl); done)); (focus rfl); (iterate 2 (focus (simp only [go_sem, *]; (try rfl); done))); (first | (apply hlw)); simp only [afterCall, putA])
          | (apply x_panic; (focus (simp only [go_sem, *]; (try rfl); done)); (focus rfl); (focus (simp only [go_sem, *]; (try rfl); done)))
          | (apply x_step; (iterate 2 (focus (simp only [go_sem, *]; (try rfl); done))); (focus rfl); simp only [putA])
          | (apply x_unwanted; (focus (simp only [go_sem, *]; (try rfl); done)); (focus rfl); simp only [putA])
          | (apply x_condT; (focus (simp only [go_sem, *]; (try rfl); done)))
          | (apply x_condF; (focus (simp only [go_sem, *]; (try rfl); done)))
          | (apply x_guardS; (focus rfl); (fail_if_success (focus (show _ = some true; (focus (simp only [go_sem, *]; (try rfl); done))))); (focus (simp only [go_sem, *]; (try rfl); done)); all_goals (intro hb; try simp only [Bool.not_eq_true', Bool.not_eq_false'] at hb))
          | (apply x_condS; (focus (simp only [go_sem, *]; (try rfl); done)); all_goals (intro hb; try simp only [Bool.not_eq_true', Bool.not_eq_false'] at hb))
        refine HI.out (i + 1, acc * 16 + d) _ _ (by have := Hlt.out; simp only; omega) ⟨Hsome.out d Hd.out, ?_, ?_, ?_, ?_, ?_, ?_, ?_, ?_, ?_, ?_, ?_, rfl⟩
        all_goals (simp only [go_sem, *]; try rfl)
      · have hnd : (decide ((48 : Int) ≤ (b.toNat : Int)) && decide ((b.toNat : Int) ≤ 57)) = false := by
          rw [Bool.and_eq_false_iff]; simp; omega
        by_cases c2 : 97 ≤ lowN b ∧ lowN b ≤ 122
        · have e1 : decide ((97 : Int) ≤ (lowN b : Int)) = true := by simp; omega
          have e2 : decide ((lowN b : Int) ≤ 122) = true := by simp; omega
          have w1 : IntKind.u8.wrap ((lowN b : Int) - 97) = ((lowN b - 97 : Nat) : Int) := by rw [IntWalk.u8_in _ (by omega)]; omega
          have w2 : IntKind.u8.wrap (((lowN b - 97 : Nat) : Int) + 10) = ((lowN b - 87 : Nat) : Int) := by rw [IntWalk.u8_in _ (by omega)]; omega
          have hd : hexD1 b = if lowN b - 87 < 16 then some (lowN b - 87) else none := by rw [hdv]; simp only [dv, c1, c2, and_self, if_false, if_true, Option.bind_some]
          clear hdv c1 c2
          generalize lowN b - 87 = d at *
          generalize lowN b - 97 = e at *
          by_cases hd16 : d < 16
          · rw [if_pos hd16] at hd
            have d4 : decide ((16 : Int) ≤ (d : Int)) = false := by simp; omega
            obtain ⟨k1, k2, k3, k4⟩ := Key.out d hd16
            have Hd := Lib.hid hd
            clear hd hd16
            cases q1 : decide ((48 : Int) ≤ (b.toNat : Int)) <;> cases q2 : decide ((b.toNat : Int) ≤ 57) <;> cases q3 : ((b.toNat : Int) == 95) <;> simp only [q1, q2] at hnd <;> try (exfalso; cases hnd; done)
            all_goals clear hnd
            all_goals
              repeat' first
                | apply x_seq | apply x_skip | apply x_block | apply x_exit | apply x_ret | apply x_ops_nil | apply p_blk | apply p_exit_it | apply p_exit_hit | apply p_ret_it | apply p_ret_blk | apply p_panic_it | apply p_panic_blk | apply p_end
                | (apply p_exit_miss; (focus rfl))
                | (apply x_region; simp only [List.toList_toArray])
                | (apply x_step0; (focus rfl); (focus (simp only [go_sem, *]; (try rfl); done)); (focus rfl); simp only [putA])
                | (apply x_callA []; (focus (simp only [go_sem, *]; (try rfl); done)); (focus rfl); (focus (simp only [go_sem, *]; (try rfl); done)); (focus rfl); (iterate 2 (focus (simp only [go_sem, *]; (try rfl); done))); (first | (apply hlw)); simp only [afterCall, putA])
                | (apply x_panic; (focus (simp only [go_sem, *]; (try rfl); done)); (focus rfl); (focus (simp only [go_sem, *]; (try rfl); done)))
                | (apply x_step; (iterate 2 (focus (simp only [go_sem, *]; (try rfl); done))); (focus rfl); simp only [putA])
                | (apply x_unwanted; (focus (simp only [go_sem, *]; (try rfl); done)); (focus rfl); simp only [putA])
                | (apply x_condT; (focus (simp only [go_sem, *]; (try rfl); done)))
                | (apply x_condF; (focus (simp only [go_sem, *]; (try rfl); done)))
                | (apply x_guardS; (focus rfl); (fail_if_success (focus (show _ = some true; (focus (simp only [go_sem, *]; (try rfl); done))))); (focus (simp only [go_sem, *]; (try rfl); done)); all_goals (intro hb; try simp only [Bool.not_eq_true', Bool.not_eq_false'] at hb))
                | (apply x_condS; (focus (simp only [go_sem, *]; (try rfl); done)); all_goals (intro hb; try simp only [Bool.not_eq_true', Bool.not_eq_false'] at hb))
              refine HI.out (i + 1, acc * 16 + d) _ _ (by have := Hlt.out; simp only; omega) ⟨Hsome.out d Hd.out, ?_, ?_, ?_, ?_, ?_, ?_, ?_, ?_, ?_, ?_, ?_, rfl⟩
              all_goals (simp only [go_sem, *]; try rfl)
          · rw [if_neg hd16] at hd
            have d4 : decide ((16 : Int) ≤ (d : Int)) = true := by simp; omega
            rw [Hnone.out hd] at h
            clear hd hd16
            cases q1 : decide ((48 : Int) ≤ (b.toNat : Int)) <;> cases q2 : decide ((b.toNat : Int) ≤ 57) <;> cases q3 : ((b.toNat : Int) == 95) <;> simp only [q1, q2] at hnd <;> try (exfalso; cases hnd; done)
            all_goals clear hnd
            all_goals
              repeat' first
                | apply x_seq | apply x_skip | apply x_block | apply x_exit | apply x_ret | apply x_ops_nil | apply p_blk | apply p_exit_it | apply p_exit_hit | apply p_ret_it | apply p_ret_blk | apply p_panic_it | apply p_panic_blk | apply p_end
                | (apply p_exit_miss; (focus rfl))
                | (apply x_region; simp only [List.toList_toArray])
                | (apply x_step0; (focus rfl); (focus (simp only [go_sem, *]; (try rfl); done)); (focus rfl); simp only [putA])
                | (apply x_callA []; (focus (simp only [go_sem, *]; (try rfl); done)); (focus rfl); (focus (simp only [go_sem, *]; (try rfl); done)); (focus rfl); (iterate 2 (focus (simp only [go_sem, *]; (try rfl); done))); (first | (apply hlw)); simp only [afterCall, putA])
                | (apply x_panic; (focus (simp only [go_sem, *]; (try rfl); done)); (focus rfl); (focus (simp only [go_sem, *]; (try rfl); done)))
                | (apply x_step; (iterate 2 (focus (simp only [go_sem, *]; (try rfl); done))); (focus rfl); simp only [putA])
                | (apply x_unwanted; (focus (simp only [go_sem, *]; (try rfl); done)); (focus rfl); simp only [putA])
                | (apply x_condT; (focus (simp only [go_sem, *]; (try rfl); done)))
                | (apply x_condF; (focus (simp only [go_sem, *]; (try rfl); done)))
                | (apply x_guardS; (focus rfl); (fail_if_success (focus (show _ = some true; (focus (simp only [go_sem, *]; (try rfl); done))))); (focus (simp only [go_sem, *]; (try rfl); done)); all_goals (intro hb; try simp only [Bool.not_eq_true', Bool.not_eq_false'] at hb))
                | (apply x_condS; (focus (simp only [go_sem, *]; (try rfl); done)); all_goals (intro hb; try simp only [Bool.not_eq_true', Bool.not_eq_false'] at hb))
              (apply f_ret; iterate 7 (focus (simp only [go_sem, *, Tryz.results99]; (try rfl); done)))
              exact h
        · have hd : hexD1 b = none := by
            rw [hdv]; unfold dv; rw [if_neg c1, if_neg c2]; rfl
          rw [Hnone.out hd] at h
          have hle : (decide ((97 : Int) ≤ (lowN b : Int)) && decide ((lowN b : Int) ≤ 122)) = false := by
            rw [Bool.and_eq_false_iff]; simp; omega
          clear hd hdv c1 c2
          cases q1 : decide ((48 : Int) ≤ (b.toNat : Int)) <;> cases q2 : decide ((b.toNat : Int) ≤ 57) <;> cases q3 : ((b.toNat : Int) == 95) <;> simp only [q1, q2] at hnd <;> try (exfalso; cases hnd; done)
          all_goals clear hnd
          all_goals
            cases q4 : decide ((97 : Int) ≤ (lowN b : Int)) <;> cases q5 : decide ((lowN b : Int) ≤ 122) <;> simp only [q4, q5] at hle <;> try (exfalso; cases hle; done)
          all_goals clear hle
          all_goals
            repeat' first
              | apply x_seq | apply x_skip | apply x_block | apply x_exit | apply x_ret | apply x_ops_nil | apply p_blk | apply p_exit_it | apply p_exit_hit | apply p_ret_it | apply p_ret_blk | apply p_panic_it | apply p_panic_blk | apply p_end
              | (apply p_exit_miss; (focus rfl))
              | (apply x_region; simp only [List.toList_toArray])
              | (apply x_step0; (focus rfl); (focus (simp only [go_sem, *]; (try rfl); done)); (focus rfl); simp only [putA])
              | (apply x_callA []; (focus (simp only [go_sem, *]; (try rfl); done)); (focus rfl); (focus (simp only [go_sem, *]; (try rfl); done)); (focus rfl); (iterate 2 (focus (simp only [go_sem, *]; (try rfl); done))); (first | (apply hlw)); simp only [afterCall, putA])
              | (apply x_panic; (focus (simp only [go_sem, *]; (try rfl); done)); (focus rfl); (focus (simp only [go_sem, *]; (try rfl); done)))
              | (apply x_step; (iterate 2 (focus (simp only [go_sem, *]; (try rfl); done))); (focus rfl); simp only [putA])
              | (apply x_unwanted; (focus (simp only [go_sem, *]; (try rfl); done)); (focus rfl); simp only [putA])
              | (apply x_condT; (focus (simp only [go_sem, *]; (try rfl); done)))
              | (apply x_condF; (focus (simp only [go_sem, *]; (try rfl); done)))
              | (apply x_guardS; (focus rfl); (fail_if_success (focus (show _ = some true; (focus (simp only [go_sem, *]; (try rfl); done))))); (focus (simp only [go_sem, *]; (try rfl); done)); all_goals (intro hb; try simp only [Bool.not_eq_true', Bool.not_eq_false'] at hb))
              | (apply x_condS; (focus (simp only [go_sem, *]; (try rfl); done)); all_goals (intro hb; try simp only [Bool.not_eq_true', Bool.not_eq_false'] at hb))
            (apply f_ret; iterate 7 (focus (simp only [go_sem, *, Tryz.results99]; (try rfl); done)))
            exact h
    · simp only at ha
      rw [ha] at h
      clear ha
      repeat' first
        | apply x_seq | apply x_skip | apply x_block | apply x_exit | apply x_ret | apply x_ops_nil | apply p_blk | apply p_exit_it | apply p_exit_hit | apply p_ret_it | apply p_ret_blk | apply p_panic_it | apply p_panic_blk | apply p_end
        | (apply p_exit_miss; (focus rfl))
        | (apply x_region; simp only [List.toList_toArray])
        | (apply x_step0; (focus rfl); (focus (simp only [go_sem, *]; (try rfl); done)); (focus rfl); simp only [putA])
        | (apply x_panic; (focus (simp only [go_sem, *]; (try rfl); done)); (focus rfl); (focus (simp only [go_sem, *]; (try rfl); done)))
        | (apply x_step; (iterate 2 (focus (simp only [go_sem, *]; (try rfl); done))); (focus rfl); simp only [putA])
        | (apply x_unwanted; (focus (simp only [go_sem, *]; (try rfl); done)); (focus rfl); simp only [putA])
        | (apply x_condT; (focus (simp only [go_sem, *]; (try rfl); done)))
        | (apply x_condF; (focus (simp only [go_sem, *]; (try rfl); done)))
        | (apply x_guardS; (focus rfl); (fail_if_success (focus (show _ = some true; (focus (simp only [go_sem, *]; (try rfl); done))))); (focus (simp only [go_sem, *]; (try rfl); done)); all_goals (intro hb; try simp only [Bool.not_eq_true', Bool.not_eq_false'] at hb))
        | (apply x_condS; (focus (simp only [go_sem, *]; (try rfl); done)); all_goals (intro hb; try simp only [Bool.not_eq_true', Bool.not_eq_false'] at hb))
      (apply f_ret; iterate 7 (focus (simp only [go_sem, *, Tryz.results99]; (try rfl); done)))
      exact h
end Go.Proofs.YtnndmokndgnidaaGreatDoor
namespace Go.Proofs.YtnndmokndgnidaaGreatDoor
open Go Go.Fen
set_option linter.unusedSimpArgs false
set_option linter.unusedVariables false
attribute [local irreducible] RunX WP ACall AnyP OpA ProtL
set_option maxRecDepth 8000
def Syn (w0 : World) : Prop := ∃ ev, w0.cell? ⟨4, 0, none⟩ = some ev ∧ (ev = .nilIface ∨ ∃ te pe, ev = .iface te pe)
theorem toErr (w0 : World) (hS : Syn w0) (S : List Blk) (s : List UInt8) (hs : s.length ≤ 1000) (R : AOut → List Blk → Prop) (h : ∀ v : Value, R (.ret (.ifc 158 (.val v))) S) :
    ACall Tryz.prog w0 98 [.str [80, 97, 114, 115, 101, 85, 105, 110, 116], .str s, .int .i64 16, .int .i64 8, synV] S R := by
  refine ACall.libR (vs := [.string ⟨#[80, 97, 114, 115, 101, 85, 105, 110, 116]⟩, .string ⟨s.toArray⟩, .int .i64 16, .int .i64 8, .iface 155 (.int .i64 2)]) (Go.Proofs.enters_of Tryz.func98 (by kernel_rfl) rfl) rfl ?_
  intro w hb
  obtain ⟨ev, hv, hev⟩ := hS
  refine (Go.Proofs.Any.strconv_toError_syntax Go.Proofs.Tryz.laysC245 ⟨#[80, 97, 114, 115, 101, 85, 105, 110, 116]⟩ ⟨s.toArray⟩ 16 8 ev w ?_ ?_ hev).mono ?_
  · show s.toArray.size ≤ _
    simp; omega
  · exact (hb.cell (World.block_lt_of_cell? _ _ hv)).trans hv
  · rintro e w' ⟨N, rfl, hN, hc, hbw⟩
    exact ⟨_, rfl, hbw, .ifc 158 (.val (.pointer (some ⟨N, 0, none⟩))), fun ι ψ => .ifc _ _ _ (.val _ rfl), h _⟩
set_option maxHeartbeats 4000000 in
theorem parseUint (w0 : World) (hS : Syn w0) : PU16 w0 := by
  intro S b1 b2 R h1 h2
  have hte := fun S' => toErr w0 hS S' [b1, b2] (by simp)
  cases hh : hexV b1 b2 with
  | some v =>
    have hpu := fun S' (R : AOut → List Blk → Prop) (h : R (.ret (.tup [.int .u64 v, .inil])) S') => puIn w0 S' b1 b2 R (by rw [hh]; exact h)
    have h := h1 v hh
    clear hte h1 h2 hh
    refine enter Tryz.func87 rfl (by decide +kernel) (by rw [Tryz.ntmps87]; simp) (by rw [Tryz.ntmps87]; decide) (fun hO => ?_); rw [Tryz.ntmps87]
    repeat' first
      | apply x_seq | apply x_skip | apply x_block | apply x_exit | apply x_ret | apply x_ops_nil | apply p_blk | apply p_exit_it | apply p_exit_hit | apply p_ret_it | apply p_ret_blk | apply p_panic_it | apply p_panic_blk | apply p_end
      | (apply p_exit_miss; (focus rfl))
      | (apply x_region; simp only [List.toList_toArray])
      | (apply x_step0; (focus rfl); (focus (simp only [go_sem, *]; (try rfl); done)); (focus rfl); simp only [putA])
      | (apply x_callA []; (focus (simp only [go_sem, *]; (try rfl); done)); (focus rfl); (focus (simp only [go_sem, *]; (try rfl); done)); (focus rfl); (iterate 2 (focus (simp only [go_sem, *]; (try rfl); done))); (first | (apply hpu)); simp only [afterCall, putA])
      | (apply x_panic; (focus (simp only [go_sem, *]; (try rfl); done)); (focus rfl); (focus (simp only [go_sem, *]; (try rfl); done)))
      | (apply x_step; (iterate 2 (focus (simp only [go_sem, *]; (try rfl); done))); (focus rfl); simp only [putA])
      | (apply x_unwanted; (focus (simp only [go_sem, *]; (try rfl); done)); (focus rfl); simp only [putA])
      | (apply x_condT; (focus (simp only [go_sem, *]; (try rfl); done)))
      | (apply x_condF; (focus (simp only [go_sem, *]; (try rfl); done)))
      | (apply x_guardS; (focus rfl); (fail_if_success (focus (show _ = some true; (focus (simp only [go_sem, *]; (try rfl); done))))); (focus (simp only [go_sem, *]; (try rfl); done)); all_goals (intro hb; try simp only [Bool.not_eq_true', Bool.not_eq_false'] at hb))
      | (apply x_condS; (focus (simp only [go_sem, *]; (try rfl); done)); all_goals (intro hb; try simp only [Bool.not_eq_true', Bool.not_eq_false'] at hb))
    (apply f_ret; iterate 7 (focus (simp only [go_sem, *, Tryz.results87]; (try rfl); done)))
    exact h
  | none =>
    have hpu := fun S' (R : AOut → List Blk → Prop) (h : R (.ret (.tup [.int .u64 0, synV])) S') => puIn w0 S' b1 b2 R (by rw [hh]; exact h)
    have h := h2 hh
    clear h1 h2 hh
    unfold synV at hpu hte
    refine enter Tryz.func87 rfl (by decide +kernel) (by rw [Tryz.ntmps87]; simp) (by rw [Tryz.ntmps87]; decide) (fun hO => ?_); rw [Tryz.ntmps87]
    repeat' first
      | apply x_seq | apply x_skip | apply x_block | apply x_exit | apply x_ret | apply x_ops_nil | apply p_blk | apply p_exit_it | apply p_exit_hit | apply p_ret_it | apply p_ret_blk | apply p_panic_it | apply p_panic_blk | apply p_end
      | (apply p_exit_miss; (focus rfl))
      | (apply x_region; simp only [List.toList_toArray])
      | (apply x_step0; (focus rfl); (focus (simp only [go_sem, *]; (try rfl); done)); (focus rfl); simp only [putA])
      | (apply x_callA []; (focus (simp only [go_sem, *]; (try rfl); done)); (focus rfl); (focus (simp only [go_sem, *]; (try rfl); done)); (focus rfl); (iterate 2 (focus (simp only [go_sem, *]; (try rfl); done))); (first | (apply hpu) | (apply hte)); simp only [afterCall, putA])
      | (apply x_panic; (focus (simp only [go_sem, *]; (try rfl); done)); (focus rfl); (focus (simp only [go_sem, *]; (try rfl); done)))
      | (apply x_step; (iterate 2 (focus (simp only [go_sem, *]; (try rfl); done))); (focus rfl); simp only [putA])
      | (apply x_unwanted; (focus (simp only [go_sem, *]; (try rfl); done)); (focus rfl); simp only [putA])
      | (apply x_condT; (focus (simp only [go_sem, *]; (try rfl); done)))
      | (apply x_condF; (focus (simp only [go_sem, *]; (try rfl); done)))
      | (apply x_guardS; (focus rfl); (fail_if_success (focus (show _ = some true; (focus (simp only [go_sem, *]; (try rfl); done))))); (focus (simp only [go_sem, *]; (try rfl); done)); all_goals (intro hb; try simp only [Bool.not_eq_true', Bool.not_eq_false'] at hb))
      | (apply x_condS; (focus (simp only [go_sem, *]; (try rfl); done)); all_goals (intro hb; try simp only [Bool.not_eq_true', Bool.not_eq_false'] at hb))
    intro v
    repeat' first
      | apply x_seq | apply x_skip | apply x_block | apply x_exit | apply x_ret | apply x_ops_nil | apply p_blk | apply p_exit_it | apply p_exit_hit | apply p_ret_it | apply p_ret_blk | apply p_panic_it | apply p_panic_blk | apply p_end
      | (apply p_exit_miss; (focus rfl))
      | (apply x_region; simp only [List.toList_toArray])
      | (apply x_step0; (focus rfl); (focus (simp only [go_sem, *]; (try rfl); done)); (focus rfl); simp only [putA])
      | (apply x_panic; (focus (simp only [go_sem, *]; (try rfl); done)); (focus rfl); (focus (simp only [go_sem, *]; (try rfl); done)))
      | (apply x_step; (iterate 2 (focus (simp only [go_sem, *]; (try rfl); done))); (focus rfl); simp only [putA])
      | (apply x_unwanted; (focus (simp only [go_sem, *]; (try rfl); done)); (focus rfl); simp only [putA])
      | (apply x_condT; (focus (simp only [go_sem, *]; (try rfl); done)))
      | (apply x_condF; (focus (simp only [go_sem, *]; (try rfl); done)))
      | (apply x_guardS; (focus rfl); (fail_if_success (focus (show _ = some true; (focus (simp only [go_sem, *]; (try rfl); done))))); (focus (simp only [go_sem, *]; (try rfl); done)); all_goals (intro hb; try simp only [Bool.not_eq_true', Bool.not_eq_false'] at hb))
      | (apply x_condS; (focus (simp only [go_sem, *]; (try rfl); done)); all_goals (intro hb; try simp only [Bool.not_eq_true', Bool.not_eq_false'] at hb))
    (apply f_ret; iterate 7 (focus (simp only [go_sem, *, Tryz.results87]; (try rfl); done)))
    exact h _ _
end Go.Proofs.YtnndmokndgnidaaGreatDoor
namespace Go.Proofs.YtnndmokndgnidaaGreatDoor
open Go Go.Fen
set_option linter.unusedSimpArgs false
set_option linter.unusedVariables false
attribute [local irreducible] RunX WP ACall AnyP OpA ProtL
set_option maxRecDepth 8000
theorem chap_fastE : fasterS chapR 1 3 = (⟨10, 3, [⟨33, 1, 0, 0, [97, 10]⟩, ⟨17, 3, 20, 4, []⟩, ⟨0, 4, 0, 0, [109]⟩]⟩, 0) := by decide +kernel
theorem chap_idleE : idleS chapR 60 = (⟨10, 3, [⟨60, 1, 0, 0, [97, 10]⟩, ⟨50, 3, 20, 4, []⟩, ⟨0, 4, 0, 0, [109]⟩]⟩, 0) := by decide +kernel
set_option maxHeartbeats 1000000 in
theorem waitsE (w0 : World) (S : List Blk) (r : Rec) (hm : (r.items.length : Int) < 9223372036854775807) (R : AOut → List Blk → Prop) (h : R (.ret (.bool (r.items.map It.wait == []))) S) :
    ACall Tryz.prog w0 47 [r.av, .sval false []] S R := by
  unfold Rec.av
  cases hi : r.items with
  | nil =>
    rw [hi] at h
    clear hm
    refine enter Tryz.func47 rfl (by decide +kernel) (by rw [Tryz.ntmps47]; simp) (by rw [Tryz.ntmps47]; decide) (fun hO => ?_); rw [Tryz.ntmps47]
    repeat' first
      | apply x_seq | apply x_skip | apply x_block | apply x_exit | apply x_ret | apply x_ops_nil | apply p_blk | apply p_exit_it | apply p_exit_hit | apply p_ret_it | apply p_ret_blk | apply p_panic_it | apply p_panic_blk | apply p_end
      | (apply p_exit_miss; (focus rfl))
      | (apply x_region; simp only [List.toList_toArray])
      | (apply x_step0; (focus rfl); (focus (simp only [go_sem, *]; (try rfl); done)); (focus rfl); simp only [putA])
      | (apply x_panic; (focus (simp only [go_sem, *]; (try rfl); done)); (focus rfl); (focus (simp only [go_sem, *]; (try rfl); done)))
      | (apply x_step; (iterate 2 (focus (simp only [go_sem, *]; (try rfl); done))); (focus rfl); simp only [putA])
      | (apply x_unwanted; (focus (simp only [go_sem, *]; (try rfl); done)); (focus rfl); simp only [putA])
      | (apply x_condT; (focus (simp only [go_sem, *]; (try rfl); done)))
      | (apply x_condF; (focus (simp only [go_sem, *]; (try rfl); done)))
      | (apply x_guardS; (focus rfl); (fail_if_success (focus (show _ = some true; (focus (simp only [go_sem, *]; (try rfl); done))))); (focus (simp only [go_sem, *]; (try rfl); done)); all_goals (intro hb; try simp only [Bool.not_eq_true', Bool.not_eq_false'] at hb))
      | (apply x_condS; (focus (simp only [go_sem, *]; (try rfl); done)); all_goals (intro hb; try simp only [Bool.not_eq_true', Bool.not_eq_false'] at hb))
    refine x_ind (fun (_ : Unit) env S' => env 1000000 = .dfr [] ∧ env 1 = .sval false [] ∧ env 5 = .int .i64 0 ∧ S' = S ++ [Blk.cells [AV.int .i64 r.cols, AV.int .i64 r.rows, AV.sval false (List.map It.av [])]]) (fun _ => 0) () ?_ ?_
    · exact ⟨by (simp only [go_sem, *]; try rfl), by (simp only [go_sem, *]; try rfl), by (simp only [go_sem, *]; try rfl), rfl⟩
    · rintro u env S' ⟨e0, e1, e5, rfl⟩ IH
      clear IH
      repeat' first
        | apply x_seq | apply x_skip | apply x_block | apply x_exit | apply x_ret | apply x_ops_nil | apply p_blk | apply p_exit_it | apply p_exit_hit | apply p_ret_it | apply p_ret_blk | apply p_panic_it | apply p_panic_blk | apply p_end
        | (apply p_exit_miss; (focus rfl))
        | (apply x_region; simp only [List.toList_toArray])
        | (apply x_step0; (focus rfl); (focus (simp only [go_sem, *]; (try rfl); done)); (focus rfl); simp only [putA])
        | (apply x_panic; (focus (simp only [go_sem, *]; (try rfl); done)); (focus rfl); (focus (simp only [go_sem, *]; (try rfl); done)))
        | (apply x_step; (iterate 2 (focus (simp only [go_sem, *]; (try rfl); done))); (focus rfl); simp only [putA])
        | (apply x_unwanted; (focus (simp only [go_sem, *]; (try rfl); done)); (focus rfl); simp only [putA])
        | (apply x_condT; (focus (simp only [go_sem, *]; (try rfl); done)))
        | (apply x_condF; (focus (simp only [go_sem, *]; (try rfl); done)))
        | (apply x_guardS; (focus rfl); (fail_if_success (focus (show _ = some true; (focus (simp only [go_sem, *]; (try rfl); done))))); (focus (simp only [go_sem, *]; (try rfl); done)); all_goals (intro hb; try simp only [Bool.not_eq_true', Bool.not_eq_false'] at hb))
        | (apply x_condS; (focus (simp only [go_sem, *]; (try rfl); done)); all_goals (intro hb; try simp only [Bool.not_eq_true', Bool.not_eq_false'] at hb))
      (apply f_ret; iterate 7 (focus (simp only [go_sem, *, Tryz.results47]; (try rfl); done)))
      exact h
  | cons x l =>
    rw [hi] at h hm
    have d1 : (((x :: l).length : Int) == 0) = false := by simp; omega
    have d2 : (((x :: l).length : Int) != 0) = true := by simp; omega
    refine enter Tryz.func47 rfl (by decide +kernel) (by rw [Tryz.ntmps47]; simp) (by rw [Tryz.ntmps47]; decide) (fun hO => ?_); rw [Tryz.ntmps47]
    repeat' first
      | apply x_seq | apply x_skip | apply x_block | apply x_exit | apply x_ret | apply x_ops_nil | apply p_blk | apply p_exit_it | apply p_exit_hit | apply p_ret_it | apply p_ret_blk | apply p_panic_it | apply p_panic_blk | apply p_end
      | (apply p_exit_miss; (focus rfl))
      | (apply x_region; simp only [List.toList_toArray])
      | (apply x_step0; (focus rfl); (focus (simp only [go_sem, *]; (try rfl); done)); (focus rfl); simp only [putA])
      | (apply x_panic; (focus (simp only [go_sem, *]; (try rfl); done)); (focus rfl); (focus (simp only [go_sem, *]; (try rfl); done)))
      | (apply x_step; (iterate 2 (focus (simp only [go_sem, *]; (try rfl); done))); (focus rfl); simp only [putA])
      | (apply x_unwanted; (focus (simp only [go_sem, *]; (try rfl); done)); (focus rfl); simp only [putA])
      | (apply x_condT; (focus (simp only [go_sem, *]; (try rfl); done)))
      | (apply x_condF; (focus (simp only [go_sem, *]; (try rfl); done)))
      | (apply x_guardS; (focus rfl); (fail_if_success (focus (show _ = some true; (focus (simp only [go_sem, *]; (try rfl); done))))); (focus (simp only [go_sem, *]; (try rfl); done)); all_goals (intro hb; try simp only [Bool.not_eq_true', Bool.not_eq_false'] at hb))
      | (apply x_condS; (focus (simp only [go_sem, *]; (try rfl); done)); all_goals (intro hb; try simp only [Bool.not_eq_true', Bool.not_eq_false'] at hb))
    (apply f_ret; iterate 7 (focus (simp only [go_sem, *, Tryz.results47]; (try rfl); done)))
    exact h
set_option maxHeartbeats 16000000 in
theorem works (w0 : World) (hT : Tab w0) (hPU : PU16 w0) (S : List Blk) (R : AOut → List Blk → Prop) (h : R (.ret (.bool true)) S) : ACall Tryz.prog w0 19 [] S R := by
  have hm : (chapR.items.length : Int) < 9223372036854775807 := by decide +kernel
  obtain ⟨ci, hci⟩ : ∃ ci : List It, chapR = ⟨10, 3, ci⟩ := ⟨_, rfl⟩
  obtain ⟨i1, hi1⟩ : ∃ l : List It, l = [⟨30, 3, 20, 4, []⟩, ⟨0, 4, 0, 0, [109]⟩] := ⟨_, rfl⟩
  obtain ⟨i3, hi3⟩ : ∃ l : List It, l = [⟨100, 1, 0, 0, [97, 10]⟩] := ⟨_, rfl⟩
  obtain ⟨i4, hi4⟩ : ∃ l : List It, l = [⟨33, 1, 0, 0, [97, 10]⟩, ⟨17, 3, 20, 4, []⟩, ⟨0, 4, 0, 0, [109]⟩] := ⟨_, rfl⟩
  obtain ⟨i5, hi5⟩ : ∃ l : List It, l = [⟨60, 1, 0, 0, [97, 10]⟩, ⟨50, 3, 20, 4, []⟩, ⟨0, 4, 0, 0, [109]⟩] := ⟨_, rfl⟩
  have t1 : ∀ S' (R : AOut → List Blk → Prop), R (.ret (.tup [(Rec.mk 10 3 ci).av, .str chapS])) S' → ACall Tryz.prog w0 46 [] S' R := fun S' R h => chapter w0 S' R (by rw [hci]; exact h)
  have t2 : ∀ S' (R : AOut → List Blk → Prop), R (.ret (.tup [.str chapS, .int .i64 0])) S' → ACall Tryz.prog w0 9 [(Rec.mk 10 3 ci).av] S' R := fun S' R h => by rw [← hci]; exact print w0 hT S' chapR hm R (by rw [chap_check, chap_print]; exact h)
  have t3 : ∀ S' (R : AOut → List Blk → Prop), R (.ret (.tup [(Rec.mk 10 3 ci).av, .int .i64 0])) S' → ACall Tryz.prog w0 27 [.str chapS] S' R := fun S' R h => parse w0 hPU S' chapS (by
    intro r hr
    have := chap_parse
    unfold parseS at this
    rw [if_neg (by decide), hr] at this
    by_cases hc : checkB r = true
    · simp only [hc, if_true, Prod.mk.injEq] at this
      rw [this.1]; exact hm
    · exfalso
      simp only [hc] at this
      cases this) R (by rw [chap_parse, hci]; exact h)
  have t4 : ∀ S' (R : AOut → List Blk → Prop), R (.ret (.tup [.int .i64 150, .int .i64 0])) S' → ACall Tryz.prog w0 11 [(Rec.mk 10 3 ci).av] S' R := fun S' R h => by rw [← hci]; exact long w0 S' chapR hm R (by rw [chap_check, chap_long]; exact h)
  have t5 : ∀ S' (R : AOut → List Blk → Prop), R (.ret (.tup [(Rec.mk 10 3 i1).av, .int .i64 0])) S' → ACall Tryz.prog w0 20 [(Rec.mk 10 3 ci).av, .int .i64 120, .int .i64 200] S' R := fun S' R h => by rw [← hci]; exact cut w0 S' chapR hm 120 200 R (by rw [chap_cut1, ← hi1]; exact h)
  have t6 : ∀ S' (R : AOut → List Blk → Prop), R (.ret (.tup [.agg [.int .i64 20, .int .i64 4, .sval false []], .int .i64 0])) S' → ACall Tryz.prog w0 20 [(Rec.mk 10 3 ci).av, .int .i64 200, .int .i64 300] S' R := fun S' R h => by rw [← hci]; exact cut w0 S' chapR hm 200 300 R (by rw [chap_cut2]; exact h)
  have t7 : ∀ S' (R : AOut → List Blk → Prop), R (.ret (.tup [(Rec.mk 10 3 i3).av, .int .i64 0])) S' → ACall Tryz.prog w0 20 [(Rec.mk 10 3 ci).av, .int .i64 0, .int .i64 150] S' R := fun S' R h => by rw [← hci]; exact cut w0 S' chapR hm 0 150 R (by rw [chap_cut3, ← hi3]; exact h)
  have t8 : ∀ S' (R : AOut → List Blk → Prop), R (.ret (.tup [(Rec.mk 10 3 i4).av, .int .i64 0])) S' → ACall Tryz.prog w0 28 [(Rec.mk 10 3 ci).av, .int .i64 1, .int .i64 3] S' R := fun S' R h => by rw [← hci]; exact faster w0 S' chapR hm 1 3 R (by rw [chap_fastE, ← hi4]; exact h)
  have t9 : ∀ S' (R : AOut → List Blk → Prop), R (.ret (.tup [(Rec.mk 10 3 i5).av, .int .i64 0])) S' → ACall Tryz.prog w0 29 [(Rec.mk 10 3 ci).av, .int .i64 60] S' R := fun S' R h => by rw [← hci]; exact idle w0 S' chapR hm 60 R (by rw [chap_idleE, ← hi5]; exact h)
  have u1 : ∀ S' b g fz, S'[b]? = some (Blk.arr 3 1 fz g [.int .i64 30, .int .i64 0]) → ∀ R : AOut → List Blk → Prop, R (.ret (.bool true)) S' → ACall Tryz.prog w0 47 [(Rec.mk 10 3 i1).av, .sown b g 2] S' R := fun S' b g fz hb R h => waits w0 S' ⟨10, 3, i1⟩ [30, 0] b g fz (by rw [hi1]; decide) hb R (by rw [hi1]; exact h)
  have u2 : ∀ S' (R : AOut → List Blk → Prop), R (.ret (.bool true)) S' → ACall Tryz.prog w0 47 [.agg [.int .i64 20, .int .i64 4, .sval false []], .sval false []] S' R := fun S' R h => waitsE w0 S' ⟨20, 4, []⟩ (by decide) R h
  have u3 : ∀ S' b g fz, S'[b]? = some (Blk.arr 3 1 fz g [.int .i64 100]) → ∀ R : AOut → List Blk → Prop, R (.ret (.bool true)) S' → ACall Tryz.prog w0 47 [(Rec.mk 10 3 i3).av, .sown b g 1] S' R := fun S' b g fz hb R h => waits w0 S' ⟨10, 3, i3⟩ [100] b g fz (by rw [hi3]; decide) hb R (by rw [hi3]; exact h)
  have u4 : ∀ S' b g fz, S'[b]? = some (Blk.arr 3 1 fz g [.int .i64 33, .int .i64 17, .int .i64 0]) → ∀ R : AOut → List Blk → Prop, R (.ret (.bool true)) S' → ACall Tryz.prog w0 47 [(Rec.mk 10 3 i4).av, .sown b g 3] S' R := fun S' b g fz hb R h => waits w0 S' ⟨10, 3, i4⟩ [33, 17, 0] b g fz (by rw [hi4]; decide) hb R (by rw [hi4]; exact h)
  have u5 : ∀ S' b g fz, S'[b]? = some (Blk.arr 3 1 fz g [.int .i64 60, .int .i64 50, .int .i64 0]) → ∀ R : AOut → List Blk → Prop, R (.ret (.bool true)) S' → ACall Tryz.prog w0 47 [(Rec.mk 10 3 i5).av, .sown b g 3] S' R := fun S' b g fz hb R h => waits w0 S' ⟨10, 3, i5⟩ [60, 50, 0] b g fz (by rw [hi5]; decide) hb R (by rw [hi5]; exact h)
  have v1 : ∀ S' (R : AOut → List Blk → Prop), R (.ret (.bool true)) S' → ACall Tryz.prog w0 16 [(Rec.mk 10 3 ci).av, (Rec.mk 10 3 ci).av] S' R := fun S' R h => refSame w0 S' ⟨10, 3, ci⟩ ⟨10, 3, ci⟩ (by rw [hci] at hm; exact hm) R (by rw [show sameB (Rec.mk 10 3 ci) ⟨10, 3, ci⟩ = true by simp [sameB]]; exact h)
  have v2 : ∀ S' (R : AOut → List Blk → Prop), R (.ret (.bool true)) S' → ACall Tryz.prog w0 48 [(Rec.mk 10 3 ci).av, .int .i64 100, .int .i64 1] S' R := fun S' R h => by rw [← hci]; exact uptoLaw w0 S' chapR hm 100 1 1 chap_check chap_up1 R h
  have v3 : ∀ S' (R : AOut → List Blk → Prop), R (.ret (.bool true)) S' → ACall Tryz.prog w0 48 [(Rec.mk 10 3 ci).av, .int .i64 149, .int .i64 1] S' R := fun S' R h => by rw [← hci]; exact uptoLaw w0 S' chapR hm 149 1 1 chap_check chap_up2 R h
  have v4 : ∀ S' (R : AOut → List Blk → Prop), R (.ret (.bool true)) S' → ACall Tryz.prog w0 48 [(Rec.mk 10 3 ci).av, .int .i64 150, .int .i64 3] S' R := fun S' R h => by rw [← hci]; exact uptoLaw w0 S' chapR hm 150 3 3 chap_check chap_up3 R h
  have v5 : ∀ S' (R : AOut → List Blk → Prop), R (.ret (.bool true)) S' → ACall Tryz.prog w0 48 [(Rec.mk 10 3 ci).av, .int .i64 (-1), .int .i64 0] S' R := fun S' R h => by rw [← hci]; exact uptoLaw w0 S' chapR hm (-1) 0 0 chap_check chap_up4 R h
  obtain ⟨cs, hcs⟩ : ∃ cs, cs = chapS := ⟨_, rfl⟩
  rw [← hcs] at t1 t2 t3
  unfold Rec.av at t1 t2 t3 t4 t5 t6 t7 t8 t9 u1 u3 u4 u5 v1 v2 v3 v4 v5
  clear hm hci hi1 hi3 hi4 hi5 hT hPU hcs
  replace t1 := Lib.hid t1
  replace t2 := Lib.hid t2
  replace t3 := Lib.hid t3
  replace t4 := Lib.hid t4
  replace t5 := Lib.hid t5
  replace t6 := Lib.hid t6
  replace t7 := Lib.hid t7
  replace t8 := Lib.hid t8
  replace t9 := Lib.hid t9
  replace u1 := Lib.hid u1
  replace u2 := Lib.hid u2
  replace u3 := Lib.hid u3
  replace u4 := Lib.hid u4
  replace u5 := Lib.hid u5
  replace v1 := Lib.hid v1
  replace v2 := Lib.hid v2
  replace v3 := Lib.hid v3
  replace v4 := Lib.hid v4
  replace v5 := Lib.hid v5
  refine enter Tryz.func19 rfl (by decide +kernel) (by rw [Tryz.ntmps19]; simp) (by rw [Tryz.ntmps19]; decide) (fun hO => ?_); rw [Tryz.ntmps19]
  repeat' first
    | apply x_seq | apply x_skip | apply x_block | apply x_exit | apply x_ret | apply x_ops_nil | apply p_blk | apply p_exit_it | apply p_exit_hit | apply p_ret_it | apply p_ret_blk | apply p_panic_it | apply p_panic_blk | apply p_end
    | (apply p_exit_miss; (focus rfl))
    | (apply x_region; simp only [List.toList_toArray])
    | (apply x_step0; (focus rfl); (focus (simp only [go_sem, *]; (try rfl); done)); (focus rfl); simp only [putA])
    | (apply x_callA []; (focus (simp only [go_sem, *]; (try rfl); done)); (focus rfl); (focus (simp only [go_sem, *]; (try rfl); done)); (focus rfl); (iterate 2 (focus (simp only [go_sem, *]; (try rfl); done))); (first | (apply t1.out) | (apply t2.out) | (apply t3.out) | (apply t4.out) | (apply t5.out) | (apply t6.out) | (apply t7.out) | (apply t8.out) | (apply t9.out) | (apply u1.out; (focus (simp only [go_sem, *]; (try rfl); done))) | (apply u2.out) | (apply u3.out; (focus (simp only [go_sem, *]; (try rfl); done))) | (apply u4.out; (focus (simp only [go_sem, *]; (try rfl); done))) | (apply u5.out; (focus (simp only [go_sem, *]; (try rfl); done))) | (apply v1.out) | (apply v2.out) | (apply v3.out) | (apply v4.out) | (apply v5.out)); simp only [afterCall, putA])
    | (apply x_panic; (focus (simp only [go_sem, *]; (try rfl); done)); (focus rfl); (focus (simp only [go_sem, *]; (try rfl); done)))
    | (apply x_step; (iterate 2 (focus (simp only [go_sem, *]; (try rfl); done))); (focus rfl); simp only [putA])
    | (apply x_unwanted; (focus (simp only [go_sem, *]; (try rfl); done)); (focus rfl); simp only [putA])
    | (apply x_condT; (focus (simp only [go_sem, *]; (try rfl); done)))
    | (apply x_condF; (focus (simp only [go_sem, *]; (try rfl); done)))
    | (apply x_guardS; (focus rfl); (fail_if_success (focus (show _ = some true; (focus (simp only [go_sem, *]; (try rfl); done))))); (focus (simp only [go_sem, *]; (try rfl); done)); all_goals (intro hb; try simp only [Bool.not_eq_true', Bool.not_eq_false'] at hb))
    | (apply x_condS; (focus (simp only [go_sem, *]; (try rfl); done)); all_goals (intro hb; try simp only [Bool.not_eq_true', Bool.not_eq_false'] at hb))
  all_goals (apply f_ret; iterate 7 (focus (simp only [go_sem, *, Tryz.results19]; (try rfl); done)))
  all_goals exact h
end Go.Proofs.YtnndmokndgnidaaGreatDoor
namespace Go.Proofs.YtnndmokndgnidaaGreatDoor
open Go Go.Fen
set_option linter.unusedSimpArgs false
set_option linter.unusedVariables false
attribute [local irreducible] RunX WP ACall AnyP OpA ProtL
set_option maxRecDepth 8000
end Go.Proofs.YtnndmokndgnidaaGreatDoor
namespace Go.Proofs.YtnndmokndgnidaaGreatDoor
open Go Go.Fen
set_option linter.unusedSimpArgs false
set_option linter.unusedVariables false
attribute [local irreducible] RunX WP ACall AnyP OpA ProtL
set_option maxRecDepth 8000
theorem bldEx : Go.Proofs.Builder.Extra Tryz.prog Go.Proofs.Tryz.lays105_ren where
  sizeBuilder := by kernel_rfl
  liesBuilder := by kernel_rfl
  t5 := Go.Proofs.Tryz.lays105.t5
  a5 := Go.Proofs.Tryz.lays105.a5
  z5 := Go.Proofs.Tryz.lays105.z5
  v5 := Go.Proofs.Tryz.lays105.v5
  infoByte := by kernel_rfl
  cellsByte := by kernel_rfl
  sizeByte := by kernel_rfl
  neB5 := by decide +kernel
theorem repeatS (w0 : World) (S : List Blk) (s : List UInt8) (n : Nat) (hn : n ≤ 9223372036854775807) (hl : s.length * n ≤ 140737488355328) (R : AOut → List Blk → Prop) (h : R (.ret (.str (Lib.repeatL s n))) S) : ACall Tryz.prog w0 26 [.str s, .int .i64 n] S R := by
  refine ACall.lib (vs := [.string ⟨s.toArray⟩, .int .i64 n]) (v := .str (Lib.repeatL s n)) (c := .string ⟨(Lib.repeatL s n).toArray⟩) (Go.Proofs.enters_of Tryz.func26 (by kernel_rfl) rfl) rfl rfl ?_ h
  intro w hb
  refine (Go.Proofs.Any.strings_Repeat Go.Proofs.Tryz.lays105 bldEx ⟨s.toArray⟩ n w hn (by rw [show (⟨s.toArray⟩ : ByteArray).size = s.length from rfl]; exact hl)).mono ?_
  rintro e w' ⟨rfl, hw⟩
  exact ⟨rfl, hw⟩
def Ref (s : List UInt8) (c : Int) : Prop := parseS s = (zeroR, c) ∧ ∀ r, recP s = some r → (r.items.length : Int) < 9223372036854775807
set_option maxHeartbeats 1000000 in
theorem refused (w0 : World) (hPU : PU16 w0) (S : List Blk) (s : List UInt8) (c : Int) (hs : Ref s c) (R : AOut → List Blk → Prop) (h : R (.ret (.bool true)) S) :
    ACall Tryz.prog w0 25 [.str s, .int .i64 c] S R := by
  have t1 : ∀ S' (R : AOut → List Blk → Prop), R (.ret (.tup [zeroR.av, .int .i64 c])) S' → ACall Tryz.prog w0 27 [.str s] S' R := fun S' R h => parse w0 hPU S' s hs.2 R (by rw [hs.1]; exact h)
  have t2 : ∀ S' (R : AOut → List Blk → Prop), R (.ret (.bool true)) S' → ACall Tryz.prog w0 16 [zeroR.av, zeroR.av] S' R := fun S' R h => refSame w0 S' zeroR zeroR (by decide) R (by simpa [sameB] using h)
  have e : zeroR.av = .agg [.int .i64 0, .int .i64 0, .sval false []] := rfl
  rw [e] at t1 t2
  clear hs hPU
  replace t1 := Lib.hid t1
  replace t2 := Lib.hid t2
  refine enter Tryz.func25 rfl (by decide +kernel) (by rw [Tryz.ntmps25]; simp) (by rw [Tryz.ntmps25]; decide) (fun hO => ?_); rw [Tryz.ntmps25]
  repeat' first
    | apply x_seq | apply x_skip | apply x_block | apply x_exit | apply x_ret | apply x_ops_nil | apply p_blk | apply p_exit_it | apply p_exit_hit | apply p_ret_it | apply p_ret_blk | apply p_panic_it | apply p_panic_blk | apply p_end
    | (apply p_exit_miss; (focus rfl))
    | (apply x_region; simp only [List.toList_toArray])
    | (apply x_step0; (focus rfl); (focus (simp only [go_sem, *]; (try rfl); done)); (focus rfl); simp only [putA])
    | (apply x_callA []; (focus (simp only [go_sem, *]; (try rfl); done)); (focus rfl); (focus (simp only [go_sem, *]; (try rfl); done)); (focus rfl); (iterate 2 (focus (simp only [go_sem, *]; (try rfl); done))); (first | (apply t1.out) | (apply t2.out)); simp only [afterCall, putA])
    | (apply x_panic; (focus (simp only [go_sem, *]; (try rfl); done)); (focus rfl); (focus (simp only [go_sem, *]; (try rfl); done)))
    | (apply x_step; (iterate 2 (focus (simp only [go_sem, *]; (try rfl); done))); (focus rfl); simp only [putA])
    | (apply x_unwanted; (focus (simp only [go_sem, *]; (try rfl); done)); (focus rfl); simp only [putA])
    | (apply x_condT; (focus (simp only [go_sem, *]; (try rfl); done)))
    | (apply x_condF; (focus (simp only [go_sem, *]; (try rfl); done)))
    | (apply x_guardS; (focus rfl); (fail_if_success (focus (show _ = some true; (focus (simp only [go_sem, *]; (try rfl); done))))); (focus (simp only [go_sem, *]; (try rfl); done)); all_goals (intro hb; try simp only [Bool.not_eq_true', Bool.not_eq_false'] at hb))
    | (apply x_condS; (focus (simp only [go_sem, *]; (try rfl); done)); all_goals (intro hb; try simp only [Bool.not_eq_true', Bool.not_eq_false'] at hb))
    | (apply d_draw; (focus exact mixed); (focus ((simp only [List.size_toArray, List.length_cons, List.length_nil, Nat.reduceAdd]; try rfl); done)))
    | (apply d_done; (focus decide +kernel))
    | ((first | (apply d_take 0; (focus decide +kernel)) | (apply d_take 1; (focus decide +kernel)) | (apply d_take 2; (focus decide +kernel)) | (apply d_take 3; (focus decide +kernel)) | (apply d_take 4; (focus decide +kernel)) | (apply d_take 5; (focus decide +kernel)) | (apply d_take 6; (focus decide +kernel)) | (apply d_take 7; (focus decide +kernel)) | (apply d_take 8; (focus decide +kernel)) | (apply d_take 9; (focus decide +kernel)) | (apply d_take 10; (focus decide +kernel)) | (apply d_take 11; (focus decide +kernel)) | (apply d_take 12; (focus decide +kernel)) | (apply d_take 13; (focus decide +kernel)) | (apply d_take 14; (focus decide +kernel)) | (apply d_take 15; (focus decide +kernel)) | (apply d_take 16; (focus decide +kernel)) | (apply d_take 17; (focus decide +kernel))); (focus (first | exact qds_FPost | exact qds_RPost | exact qds_YB | assumption)); (focus rfl); (iterate 3 (focus (simp only [go_sem, *]; (try rfl); done))); (focus rfl); (focus (simp only [go_sem, *]; (try rfl); done)); simp only [putA])
    | ((first | (apply d_unw 0; (focus decide +kernel)) | (apply d_unw 1; (focus decide +kernel)) | (apply d_unw 2; (focus decide +kernel)) | (apply d_unw 3; (focus decide +kernel)) | (apply d_unw 4; (focus decide +kernel)) | (apply d_unw 5; (focus decide +kernel)) | (apply d_unw 6; (focus decide +kernel)) | (apply d_unw 7; (focus decide +kernel)) | (apply d_unw 8; (focus decide +kernel)) | (apply d_unw 9; (focus decide +kernel)) | (apply d_unw 10; (focus decide +kernel)) | (apply d_unw 11; (focus decide +kernel)) | (apply d_unw 12; (focus decide +kernel)) | (apply d_unw 13; (focus decide +kernel)) | (apply d_unw 14; (focus decide +kernel)) | (apply d_unw 15; (focus decide +kernel)) | (apply d_unw 16; (focus decide +kernel)) | (apply d_unw 17; (focus decide +kernel))); (focus (first | exact qds_FPost | exact qds_RPost | exact qds_YB | assumption)); (focus rfl); (iterate 2 (focus (simp only [go_sem, *]; (try rfl); done))); (focus rfl); simp only [putA])
    | (first | (apply d_one 0; (focus decide +kernel)) | (apply d_one 1; (focus decide +kernel)) | (apply d_one 2; (focus decide +kernel)) | (apply d_one 3; (focus decide +kernel)) | (apply d_one 4; (focus decide +kernel)) | (apply d_one 5; (focus decide +kernel)) | (apply d_one 6; (focus decide +kernel)) | (apply d_one 7; (focus decide +kernel)) | (apply d_one 8; (focus decide +kernel)) | (apply d_one 9; (focus decide +kernel)) | (apply d_one 10; (focus decide +kernel)) | (apply d_one 11; (focus decide +kernel)) | (apply d_one 12; (focus decide +kernel)) | (apply d_one 13; (focus decide +kernel)) | (apply d_one 14; (focus decide +kernel)) | (apply d_one 15; (focus decide +kernel)) | (apply d_one 16; (focus decide +kernel)) | (apply d_one 17; (focus decide +kernel)))
    | (apply o_step; (iterate 3 (focus (simp only [go_sem, *]; (try rfl); done))); (focus rfl); simp only [putA])
    | (apply o_unw; (iterate 2 (focus (simp only [go_sem, *]; (try rfl); done))); (focus rfl); simp only [putA])
    | apply pr_nil | apply pr_same | apply pr_go | apply pl_nil | apply pl_none | (apply pl_skip; (focus decide +kernel)) | (apply pl_one; (focus (simp only [go_sem, *]; (try rfl); done)))
    | (apply o_call []; (iterate 2 (focus (simp only [go_sem, *]; (try rfl); done))); (focus rfl); (focus (simp only [go_sem, *]; (try rfl); done)); (focus rfl); (iterate 2 (focus (simp only [go_sem, *]; (try rfl); done))); (first | (apply t1.out) | (apply t2.out)); simp only [afterOp, putA])
  (apply f_ret; iterate 7 (focus (simp only [go_sem, *, Tryz.results25]; (try rfl); done)))
  exact h
end Go.Proofs.YtnndmokndgnidaaGreatDoor
namespace Go.Proofs.YtnndmokndgnidaaGreatDoor
open Go Go.Fen
set_option linter.unusedSimpArgs false
set_option linter.unusedVariables false
attribute [local irreducible] RunX WP ACall AnyP OpA ProtL
set_option maxRecDepth 8000
theorem growIt (w0 : World) (S : List Blk) (n : Nat) (h1 : 1 ≤ n) (h2 : n ≤ 100000) (R : AOut → List Blk → Prop) (h : R (.ret (.sown S.length 0 0)) (S ++ [.arr 29 5 0 0 []])) :
    ACall Tryz.prog w0 64 [.snil, .int .i64 (n : Int)] S R := by
  unfold ACall
  refine ⟨Go.Proofs.enters_of Tryz.func64 (by kernel_rfl) rfl, fun ι ψ w cargs hRel hl hargs => ?_⟩
  obtain ⟨c0, c1, rfl⟩ : ∃ c0 c1, cargs = #[c0, c1] := by
    match cargs, hl with
    | ⟨[c0, c1]⟩, _ => exact ⟨c0, c1, rfl⟩
  have v0 := hargs 0 _ _ rfl rfl
  obtain rfl := (hargs 1 _ _ rfl rfl).int_inv
  cases v0 with
  | snil =>
  obtain ⟨i, z, hi, hz, hs, hb, hzs⟩ := einfo_spec ei_29
  refine (Go.Proofs.Any8.slices_Grow_grow Go.Proofs.Tryz.growIt i z hi hz (by omega) none 0 0 n [] w (Nat.le_refl _) (by omega) ?_ (by omega) (by simp) (fun _ => rfl) (fun a ha => by cases ha)).mono ?_
  · rw [hb]; omega
  rintro e w' ⟨rfl, rfl⟩
  have hcm := grownCap_le_maxLen w (0 + n) 0 29 (by simp only [maxLen]; omega)
  have hge := grownCap_ge w (0 + n) 0 29
  have key := hRel.drew.newArr 29 5 0 (grownCap w (0 + n) 0 29) [] (#[] ++ Builtin.zeroCells z.cells (0 + n - 0) ++ Builtin.zeroCells z.cells (grownCap w (0 + n) 0 29 - (0 + n))) rfl rfl (by omega) (Nat.zero_le _) hcm ?_ (fun j x e => by simp [flat] at e)
  · refine ⟨_, _, .ret (.sown S.length 0 0), _, Ext.push ι ψ _, key, ?_, h⟩
    refine .sown _ _ _ _ _ ⟨0, 0, .slice (some ⟨w.heap.size, 0, none⟩) 0 (grownCap w (0 + n) 0 29), 5⟩ ?_ (Nat.le_refl _) (fun _ => rfl)
    rw [← hRel.len]; simp
  · simp only [Array.size_append, size_zeroCells, hzs, List.size_toArray, List.length_nil]
    omega
end Go.Proofs.YtnndmokndgnidaaGreatDoor
namespace Go.Proofs.YtnndmokndgnidaaGreatDoor
open Go Go.Fen
set_option linter.unusedSimpArgs false
set_option linter.unusedVariables false
attribute [local irreducible] RunX WP ACall AnyP OpA ProtL
set_option maxRecDepth 8000
theorem wraps : IntKind.i64.wrap 0 = 0 ∧ IntKind.i64.wrap 1 = 1 ∧ IntKind.i64.wrap 2 = 2 ∧ IntKind.i64.wrap 3 = 3 := by decide
set_option maxHeartbeats 8000000 in
theorem concatIt (w0 : World) (S : List Blk) (A B : List It) (x : It) (fA fB : Bool) (hA : A.length ≤ 1000) (hB : B.length ≤ 1000) (b g fz a ga fa : Nat) (hb : S[b]? = some (.arr 22 1 fz g [.sval fA (A.map It.av), .sown a ga 1, .sval fB (B.map It.av)]))
    (ha : S[a]? = some (.arr 29 5 fa ga [x.av])) (R : AOut → List Blk → Prop) (h : R (.ret (.sval false ((A ++ x :: B).map It.av))) S) :
    ACall Tryz.prog w0 50 [.sown b g 3] S R := by
  obtain ⟨_, w1, w2, w3⟩ := wraps
  have hbl := (List.getElem?_eq_some_iff.1 hb).1
  have hal := (List.getElem?_eq_some_iff.1 ha).1
  have q1 : IntKind.i64.wrap (0 + (A.length : Int)) = (A.length : Int) := by rw [Int.zero_add]; exact IntWalk.i64_in _ (by omega)
  have q2 : IntKind.i64.wrap ((A.length : Int) + 1) = ((A.length + 1 : Nat) : Int) := (IntWalk.i64_in _ (by omega)).trans (by omega)
  have q2' : IntKind.i64.wrap ((A.length : Int) + ((1 : Nat) : Int)) = ((A.length + 1 : Nat) : Int) := (IntWalk.i64_in _ (by omega)).trans (by omega)
  have q3 : IntKind.i64.wrap (((A.length + 1 : Nat) : Int) + (B.length : Int)) = ((A.length + 1 + B.length : Nat) : Int) := (IntWalk.i64_in _ (by omega)).trans (by omega)
  have p1 : decide ((A.length : Int) < 0) = false := by simp
  have p2 : decide (((A.length + 1 : Nat) : Int) < 0) = false := by simp; omega
  have p3 : decide (((A.length + 1 + B.length : Nat) : Int) < 0) = false := by simp; omega
  have hgr := Lib.hid (fun S' => growIt w0 S' (A.length + 1 + B.length) (by omega) (by omega))
  have r0 : A.length * 48 ≤ 140737488355328 := by omega
  have r1 : (0 + A.length) * 48 ≤ 140737488355328 := by omega
  have r2 : (A.length + 1) * 48 ≤ 140737488355328 := by omega
  have r3 : (A.length + 1 + B.length) * 48 ≤ 140737488355328 := by omega
  have okA := It.ok A
  have okB := It.ok B
  simp only [okEls, AV.cells] at okA okB
  clear hA hB
  unfold It.av at ha
  refine enter Tryz.func50 rfl (by decide +kernel) (by rw [Tryz.ntmps50]; simp) (by rw [Tryz.ntmps50]; decide) (fun hO => ?_); rw [Tryz.ntmps50]
  repeat' first
    | apply x_seq | apply x_skip | apply x_block | apply x_exit | apply x_ret | apply x_ops_nil | apply p_blk | apply p_exit_it | apply p_exit_hit | apply p_ret_it | apply p_ret_blk | apply p_panic_it | apply p_panic_blk | apply p_end
    | (apply p_exit_miss; (focus rfl))
    | (apply x_region; simp only [List.toList_toArray])
    | (apply x_step0; (focus rfl); (focus (simp only [go_sem, *]; (try rfl); done)); (focus rfl); simp only [putA])
    | (apply x_panic; (focus (simp only [go_sem, *]; (try rfl); done)); (focus rfl); (focus (simp only [go_sem, *]; (try rfl); done)))
    | (apply x_step; (iterate 2 (focus (simp only [go_sem, *]; (try rfl); done))); (focus rfl); simp only [putA])
    | (apply x_unwanted; (focus (simp only [go_sem, *]; (try rfl); done)); (focus rfl); simp only [putA])
    | (apply x_condT; (focus (simp only [go_sem, *]; (try rfl); done)))
    | (apply x_condF; (focus (simp only [go_sem, *]; (try rfl); done)))
    | (apply x_guardS; (focus rfl); (fail_if_success (focus (show _ = some true; (focus (simp only [go_sem, *]; (try rfl); done))))); (focus (simp only [go_sem, *]; (try rfl); done)); all_goals (intro hb; try simp only [Bool.not_eq_true', Bool.not_eq_false'] at hb))
    | (apply x_condS; (focus (simp only [go_sem, *]; (try rfl); done)); all_goals (intro hb; try simp only [Bool.not_eq_true', Bool.not_eq_false'] at hb))
    | apply x_loop | apply x_lp
  refine x_callR (f := 64) (A := [.snil, .int .i64 ((A.length + 1 + B.length : Nat) : Int)]) (by (simp only [go_sem, *]; try rfl)) rfl (by (simp only [go_sem, *]; try rfl)) rfl (by (simp only [go_sem, *]; try rfl)) ?_
  refine hgr.out _ _ ?_
  simp only [afterCall, putA]
  repeat' first
    | apply x_seq | apply x_skip | apply x_block | apply x_exit | apply x_ret | apply x_ops_nil | apply p_blk | apply p_exit_it | apply p_exit_hit | apply p_ret_it | apply p_ret_blk | apply p_panic_it | apply p_panic_blk | apply p_end
    | (apply p_exit_miss; (focus rfl))
    | (apply x_region; simp only [List.toList_toArray])
    | (apply x_step0; (focus rfl); (focus (simp only [go_sem, *, It.av, List.length_append]; (try rfl); done)); (focus rfl); simp only [putA])
    | (apply x_panic; (focus (simp only [go_sem, *, It.av, List.length_append]; (try rfl); done)); (focus rfl); (focus (simp only [go_sem, *, It.av, List.length_append]; (try rfl); done)))
    | (apply x_step; (iterate 2 (focus (simp only [go_sem, *, It.av, List.length_append]; (try rfl); done))); (focus rfl); simp only [putA])
    | (apply x_unwanted; (focus (simp only [go_sem, *, It.av, List.length_append]; (try rfl); done)); (focus rfl); simp only [putA])
    | (apply x_condT; (focus (simp only [go_sem, *, It.av, List.length_append]; (try rfl); done)))
    | (apply x_condF; (focus (simp only [go_sem, *, It.av, List.length_append]; (try rfl); done)))
    | (apply x_guardS; (focus rfl); (fail_if_success (focus (show _ = some true; (focus (simp only [go_sem, *, It.av, List.length_append]; (try rfl); done))))); (focus (simp only [go_sem, *, It.av, List.length_append]; (try rfl); done)); all_goals (intro hb; try simp only [Bool.not_eq_true', Bool.not_eq_false'] at hb))
    | (apply x_condS; (focus (simp only [go_sem, *, It.av, List.length_append]; (try rfl); done)); all_goals (intro hb; try simp only [Bool.not_eq_true', Bool.not_eq_false'] at hb))
    | apply x_loop | apply x_lp
  (apply f_ret; iterate 7 (focus (simp only [go_sem, *, Tryz.results50, List.length_append]; (try rfl); done)))
  refine cast (congrArg (fun l => R (.ret (.sval false l)) S) ?_) h
  simp [It.av]
end Go.Proofs.YtnndmokndgnidaaGreatDoor
namespace Go.Proofs.YtnndmokndgnidaaGreatDoor
open Go Go.Fen
set_option linter.unusedSimpArgs false
set_option linter.unusedVariables false
attribute [local irreducible] RunX WP ACall AnyP OpA ProtL
set_option maxRecDepth 8000
def joinS (a b : Rec) (w : Int) : Rec × Int :=
  if checkB a then (if checkB b then (if wB w 0 1000000 then (if a.items.length + b.items.length < 1000 then (⟨a.cols, a.rows, a.items ++ ⟨w, 3, b.cols, b.rows, []⟩ :: b.items⟩, 0) else (zeroR, 3)) else (zeroR, 2)) else (zeroR, 520)) else (zeroR, 520)
theorem chk_len {r : Rec} (h : checkB r = true) : r.items.length ≤ 1000 := (waits_of h).1
set_option maxHeartbeats 8000000 in
theorem join (w0 : World) (S : List Blk) (a b : Rec) (hma : (a.items.length : Int) < 9223372036854775807) (hmb : (b.items.length : Int) < 9223372036854775807) (w : Int) (R : AOut → List Blk → Prop) (h : R (.ret (resAV (joinS a b w))) S) :
    ACall Tryz.prog w0 23 [a.av, b.av, .int .i64 w] S R := by
  obtain ⟨_, w1, w2, w3⟩ := wraps
  have ca := fun S' => check w0 S' a hma
  have cb := fun S' => check w0 S' b hmb
  have hwi := Lib.hid (fun S' => within' w0 S' w 0 1000000)
  unfold joinS at h
  unfold resAV at h
  cases hca : checkB a with
  | false =>
    simp only [hca, Bool.false_eq_true, if_false] at h ca
    clear cb hma hmb
    unfold Rec.av zeroR at h
    unfold Rec.av at ca ⊢
    replace ca := Lib.hid ca
    refine enter Tryz.func23 rfl (by decide +kernel) (by rw [Tryz.ntmps23]; simp) (by rw [Tryz.ntmps23]; decide) (fun hO => ?_); rw [Tryz.ntmps23]
    repeat' first
      | apply x_seq | apply x_skip | apply x_block | apply x_exit | apply x_ret | apply x_ops_nil | apply p_blk | apply p_exit_it | apply p_exit_hit | apply p_ret_it | apply p_ret_blk | apply p_panic_it | apply p_panic_blk | apply p_end
      | (apply p_exit_miss; (focus rfl))
      | (apply x_region; simp only [List.toList_toArray])
      | (apply x_step0; (focus rfl); (focus (simp only [go_sem, *]; (try rfl); done)); (focus rfl); simp only [putA])
      | (apply x_callA []; (focus (simp only [go_sem, *]; (try rfl); done)); (focus rfl); (focus (simp only [go_sem, *]; (try rfl); done)); (focus rfl); (iterate 2 (focus (simp only [go_sem, *]; (try rfl); done))); (first | (apply ca.out)); simp only [afterCall, putA])
      | (apply x_panic; (focus (simp only [go_sem, *]; (try rfl); done)); (focus rfl); (focus (simp only [go_sem, *]; (try rfl); done)))
      | (apply x_step; (iterate 2 (focus (simp only [go_sem, *]; (try rfl); done))); (focus rfl); simp only [putA])
      | (apply x_unwanted; (focus (simp only [go_sem, *]; (try rfl); done)); (focus rfl); simp only [putA])
      | (apply x_condT; (focus (simp only [go_sem, *]; (try rfl); done)))
      | (apply x_condF; (focus (simp only [go_sem, *]; (try rfl); done)))
      | (apply x_guardS; (focus rfl); (fail_if_success (focus (show _ = some true; (focus (simp only [go_sem, *]; (try rfl); done))))); (focus (simp only [go_sem, *]; (try rfl); done)); all_goals (intro hb; try simp only [Bool.not_eq_true', Bool.not_eq_false'] at hb))
      | (apply x_condS; (focus (simp only [go_sem, *]; (try rfl); done)); all_goals (intro hb; try simp only [Bool.not_eq_true', Bool.not_eq_false'] at hb))
      | apply x_loop | apply x_lp
    (apply f_ret; iterate 7 (focus (simp only [go_sem, *, Tryz.results23]; (try rfl); done)))
    exact h
  | true =>
    cases hcb : checkB b with
    | false =>
      simp only [hca, hcb, Bool.false_eq_true, if_false, if_true] at h ca cb
      clear hma hmb
      unfold Rec.av zeroR at h
      unfold Rec.av at ca cb ⊢
      replace ca := Lib.hid ca
      replace cb := Lib.hid cb
      refine enter Tryz.func23 rfl (by decide +kernel) (by rw [Tryz.ntmps23]; simp) (by rw [Tryz.ntmps23]; decide) (fun hO => ?_); rw [Tryz.ntmps23]
      repeat' first
        | apply x_seq | apply x_skip | apply x_block | apply x_exit | apply x_ret | apply x_ops_nil | apply p_blk | apply p_exit_it | apply p_exit_hit | apply p_ret_it | apply p_ret_blk | apply p_panic_it | apply p_panic_blk | apply p_end
        | (apply p_exit_miss; (focus rfl))
        | (apply x_region; simp only [List.toList_toArray])
        | (apply x_step0; (focus rfl); (focus (simp only [go_sem, *]; (try rfl); done)); (focus rfl); simp only [putA])
        | (apply x_callA []; (focus (simp only [go_sem, *]; (try rfl); done)); (focus rfl); (focus (simp only [go_sem, *]; (try rfl); done)); (focus rfl); (iterate 2 (focus (simp only [go_sem, *]; (try rfl); done))); (first | (apply ca.out) | (apply cb.out)); simp only [afterCall, putA])
        | (apply x_panic; (focus (simp only [go_sem, *]; (try rfl); done)); (focus rfl); (focus (simp only [go_sem, *]; (try rfl); done)))
        | (apply x_step; (iterate 2 (focus (simp only [go_sem, *]; (try rfl); done))); (focus rfl); simp only [putA])
        | (apply x_unwanted; (focus (simp only [go_sem, *]; (try rfl); done)); (focus rfl); simp only [putA])
        | (apply x_condT; (focus (simp only [go_sem, *]; (try rfl); done)))
        | (apply x_condF; (focus (simp only [go_sem, *]; (try rfl); done)))
        | (apply x_guardS; (focus rfl); (fail_if_success (focus (show _ = some true; (focus (simp only [go_sem, *]; (try rfl); done))))); (focus (simp only [go_sem, *]; (try rfl); done)); all_goals (intro hb; try simp only [Bool.not_eq_true', Bool.not_eq_false'] at hb))
        | (apply x_condS; (focus (simp only [go_sem, *]; (try rfl); done)); all_goals (intro hb; try simp only [Bool.not_eq_true', Bool.not_eq_false'] at hb))
        | apply x_loop | apply x_lp
      (apply f_ret; iterate 7 (focus (simp only [go_sem, *, Tryz.results23]; (try rfl); done)))
      exact h
    | true =>
      have la := chk_len hca
      have lb := chk_len hcb
      simp only [hca, hcb, if_true] at h ca cb
      clear hma hmb
      cases hww : wB w 0 1000000 with
      | false =>
        simp only [hww, Bool.false_eq_true, if_false] at h
        replace hwi := hwi.out
        rw [hww] at hwi
        unfold Rec.av zeroR at h
        unfold Rec.av at ca cb ⊢
        replace ca := Lib.hid ca
        replace cb := Lib.hid cb
        replace hwi := Lib.hid hwi
        refine enter Tryz.func23 rfl (by decide +kernel) (by rw [Tryz.ntmps23]; simp) (by rw [Tryz.ntmps23]; decide) (fun hO => ?_); rw [Tryz.ntmps23]
        repeat' first
          | apply x_seq | apply x_skip | apply x_block | apply x_exit | apply x_ret | apply x_ops_nil | apply p_blk | apply p_exit_it | apply p_exit_hit | apply p_ret_it | apply p_ret_blk | apply p_panic_it | apply p_panic_blk | apply p_end
          | (apply p_exit_miss; (focus rfl))
          | (apply x_region; simp only [List.toList_toArray])
          | (apply x_step0; (focus rfl); (focus (simp only [go_sem, *]; (try rfl); done)); (focus rfl); simp only [putA])
          | (apply x_callA []; (focus (simp only [go_sem, *]; (try rfl); done)); (focus rfl); (focus (simp only [go_sem, *]; (try rfl); done)); (focus rfl); (iterate 2 (focus (simp only [go_sem, *]; (try rfl); done))); (first | (apply ca.out) | (apply cb.out) | (apply hwi.out)); simp only [afterCall, putA])
          | (apply x_panic; (focus (simp only [go_sem, *]; (try rfl); done)); (focus rfl); (focus (simp only [go_sem, *]; (try rfl); done)))
          | (apply x_step; (iterate 2 (focus (simp only [go_sem, *]; (try rfl); done))); (focus rfl); simp only [putA])
          | (apply x_unwanted; (focus (simp only [go_sem, *]; (try rfl); done)); (focus rfl); simp only [putA])
          | (apply x_condT; (focus (simp only [go_sem, *]; (try rfl); done)))
          | (apply x_condF; (focus (simp only [go_sem, *]; (try rfl); done)))
          | (apply x_guardS; (focus rfl); (fail_if_success (focus (show _ = some true; (focus (simp only [go_sem, *]; (try rfl); done))))); (focus (simp only [go_sem, *]; (try rfl); done)); all_goals (intro hb; try simp only [Bool.not_eq_true', Bool.not_eq_false'] at hb))
          | (apply x_condS; (focus (simp only [go_sem, *]; (try rfl); done)); all_goals (intro hb; try simp only [Bool.not_eq_true', Bool.not_eq_false'] at hb))
          | apply x_loop | apply x_lp
        (apply f_ret; iterate 7 (focus (simp only [go_sem, *, Tryz.results23]; (try rfl); done)))
        exact h
      | true =>
        simp only [hww, if_true] at h
        replace hwi := hwi.out
        rw [hww] at hwi
        have q1 : IntKind.i64.wrap ((a.items.length : Int) + (b.items.length : Int)) = ((a.items.length + b.items.length : Nat) : Int) := (IntWalk.i64_in _ (by omega)).trans (by omega)
        by_cases hlt : a.items.length + b.items.length < 1000
        · rw [if_pos hlt] at h
          have d1 : decide ((1000 : Int) ≤ ((a.items.length + b.items.length : Nat) : Int)) = false := by simp; omega
          have hcc : ∀ (S' : List Blk) (p g fz q gq fq : Nat), S'[p]? = some (.arr 22 1 fz g [.sval false (a.items.map It.av), .sown q gq 1, .sval false (b.items.map It.av)]) → S'[q]? = some (.arr 29 5 fq gq [.agg [.int .i64 w, .int .i64 3, .int .i64 b.cols, .int .i64 b.rows, .str []]]) →
              ∀ R : AOut → List Blk → Prop, R (.ret (.sval false ((a.items ++ ⟨w, 3, b.cols, b.rows, []⟩ :: b.items).map It.av))) S' → ACall Tryz.prog w0 50 [.sown p g 3] S' R :=
            fun S' p g fz q gq fq h1 h2 R h3 => concatIt w0 S' a.items b.items ⟨w, 3, b.cols, b.rows, []⟩ false false la lb p g fz q gq fq h1 h2 R h3
          obtain ⟨l, hl⟩ : ∃ l, l = a.items ++ (It.mk w 3 b.cols b.rows []) :: b.items := ⟨_, rfl⟩
          rw [← hl] at h hcc
          clear hlt la lb hl
          unfold Rec.av at h
          unfold Rec.av at ca cb ⊢
          replace ca := Lib.hid ca
          replace cb := Lib.hid cb
          replace hwi := Lib.hid hwi
          replace hcc := Lib.hid hcc
          refine enter Tryz.func23 rfl (by decide +kernel) (by rw [Tryz.ntmps23]; simp) (by rw [Tryz.ntmps23]; decide) (fun hO => ?_); rw [Tryz.ntmps23]
          repeat' first
            | apply x_seq | apply x_skip | apply x_block | apply x_exit | apply x_ret | apply x_ops_nil | apply p_blk | apply p_exit_it | apply p_exit_hit | apply p_ret_it | apply p_ret_blk | apply p_panic_it | apply p_panic_blk | apply p_end
            | (apply p_exit_miss; (focus rfl))
            | (apply x_region; simp only [List.toList_toArray])
            | (apply x_step0; (focus rfl); (focus (simp only [go_sem, *]; (try rfl); done)); (focus rfl); simp only [putA])
            | (apply x_callA []; (focus (simp only [go_sem, *]; (try rfl); done)); (focus rfl); (focus (simp only [go_sem, *]; (try rfl); done)); (focus rfl); (iterate 2 (focus (simp only [go_sem, *]; (try rfl); done))); (first | (apply ca.out) | (apply cb.out) | (apply hwi.out) | (apply hcc.out; (iterate 2 (focus (simp only [go_sem, *]; (try rfl); done))))); simp only [afterCall, putA])
            | (apply x_panic; (focus (simp only [go_sem, *]; (try rfl); done)); (focus rfl); (focus (simp only [go_sem, *]; (try rfl); done)))
            | (apply x_step; (iterate 2 (focus (simp only [go_sem, *]; (try rfl); done))); (focus rfl); simp only [putA])
            | (apply x_unwanted; (focus (simp only [go_sem, *]; (try rfl); done)); (focus rfl); simp only [putA])
            | (apply x_condT; (focus (simp only [go_sem, *]; (try rfl); done)))
            | (apply x_condF; (focus (simp only [go_sem, *]; (try rfl); done)))
            | (apply x_guardS; (focus rfl); (fail_if_success (focus (show _ = some true; (focus (simp only [go_sem, *]; (try rfl); done))))); (focus (simp only [go_sem, *]; (try rfl); done)); all_goals (intro hb; try simp only [Bool.not_eq_true', Bool.not_eq_false'] at hb))
            | (apply x_condS; (focus (simp only [go_sem, *]; (try rfl); done)); all_goals (intro hb; try simp only [Bool.not_eq_true', Bool.not_eq_false'] at hb))
            | apply x_loop | apply x_lp
            | (apply d_draw; (focus exact mixed); (focus ((simp only [List.size_toArray, List.length_cons, List.length_nil, Nat.reduceAdd]; try rfl); done)))
            | (apply d_done; (focus decide +kernel))
            | ((first | (apply d_take 0; (focus decide +kernel)) | (apply d_take 1; (focus decide +kernel)) | (apply d_take 2; (focus decide +kernel)) | (apply d_take 3; (focus decide +kernel)) | (apply d_take 4; (focus decide +kernel)) | (apply d_take 5; (focus decide +kernel)) | (apply d_take 6; (focus decide +kernel)) | (apply d_take 7; (focus decide +kernel)) | (apply d_take 8; (focus decide +kernel)) | (apply d_take 9; (focus decide +kernel)) | (apply d_take 10; (focus decide +kernel)) | (apply d_take 11; (focus decide +kernel)) | (apply d_take 12; (focus decide +kernel)) | (apply d_take 13; (focus decide +kernel)) | (apply d_take 14; (focus decide +kernel)) | (apply d_take 15; (focus decide +kernel)) | (apply d_take 16; (focus decide +kernel)) | (apply d_take 17; (focus decide +kernel))); (focus (first | exact qds_FPost | exact qds_RPost | exact qds_YB | assumption)); (focus rfl); (iterate 3 (focus (simp only [go_sem, *]; (try rfl); done))); (focus rfl); (focus (simp only [go_sem, *]; (try rfl); done)); simp only [putA])
            | ((first | (apply d_unw 0; (focus decide +kernel)) | (apply d_unw 1; (focus decide +kernel)) | (apply d_unw 2; (focus decide +kernel)) | (apply d_unw 3; (focus decide +kernel)) | (apply d_unw 4; (focus decide +kernel)) | (apply d_unw 5; (focus decide +kernel)) | (apply d_unw 6; (focus decide +kernel)) | (apply d_unw 7; (focus decide +kernel)) | (apply d_unw 8; (focus decide +kernel)) | (apply d_unw 9; (focus decide +kernel)) | (apply d_unw 10; (focus decide +kernel)) | (apply d_unw 11; (focus decide +kernel)) | (apply d_unw 12; (focus decide +kernel)) | (apply d_unw 13; (focus decide +kernel)) | (apply d_unw 14; (focus decide +kernel)) | (apply d_unw 15; (focus decide +kernel)) | (apply d_unw 16; (focus decide +kernel)) | (apply d_unw 17; (focus decide +kernel))); (focus (first | exact qds_FPost | exact qds_RPost | exact qds_YB | assumption)); (focus rfl); (iterate 2 (focus (simp only [go_sem, *]; (try rfl); done))); (focus rfl); simp only [putA])
            | (first | (apply d_one 0; (focus decide +kernel)) | (apply d_one 1; (focus decide +kernel)) | (apply d_one 2; (focus decide +kernel)) | (apply d_one 3; (focus decide +kernel)) | (apply d_one 4; (focus decide +kernel)) | (apply d_one 5; (focus decide +kernel)) | (apply d_one 6; (focus decide +kernel)) | (apply d_one 7; (focus decide +kernel)) | (apply d_one 8; (focus decide +kernel)) | (apply d_one 9; (focus decide +kernel)) | (apply d_one 10; (focus decide +kernel)) | (apply d_one 11; (focus decide +kernel)) | (apply d_one 12; (focus decide +kernel)) | (apply d_one 13; (focus decide +kernel)) | (apply d_one 14; (focus decide +kernel)) | (apply d_one 15; (focus decide +kernel)) | (apply d_one 16; (focus decide +kernel)) | (apply d_one 17; (focus decide +kernel)))
            | (apply o_step; (iterate 3 (focus (simp only [go_sem, *]; (try rfl); done))); (focus rfl); simp only [putA])
            | (apply o_unw; (iterate 2 (focus (simp only [go_sem, *]; (try rfl); done))); (focus rfl); simp only [putA])
            | apply pr_nil | apply pr_same | apply pr_go | apply pl_nil | apply pl_none | (apply pl_skip; (focus decide +kernel)) | (apply pl_one; (focus (simp only [go_sem, *]; (try rfl); done)))
            | (apply o_call []; (iterate 2 (focus (simp only [go_sem, *]; (try rfl); done))); (focus rfl); (focus (simp only [go_sem, *]; (try rfl); done)); (focus rfl); (iterate 2 (focus (simp only [go_sem, *]; (try rfl); done))); (first | (apply ca.out) | (apply cb.out) | (apply hwi.out) | (apply hcc.out; (iterate 2 (focus (simp only [go_sem, *]; (try rfl); done))))); simp only [afterOp, putA])
          (apply f_ret; iterate 7 (focus (simp only [go_sem, *, Tryz.results23]; (try rfl); done)))
          exact h
        · rw [if_neg hlt] at h
          have d1 : decide ((1000 : Int) ≤ ((a.items.length + b.items.length : Nat) : Int)) = true := by simp; omega
          clear hlt la lb
          unfold Rec.av zeroR at h
          unfold Rec.av at ca cb ⊢
          replace ca := Lib.hid ca
          replace cb := Lib.hid cb
          replace hwi := Lib.hid hwi
          refine enter Tryz.func23 rfl (by decide +kernel) (by rw [Tryz.ntmps23]; simp) (by rw [Tryz.ntmps23]; decide) (fun hO => ?_); rw [Tryz.ntmps23]
          repeat' first
            | apply x_seq | apply x_skip | apply x_block | apply x_exit | apply x_ret | apply x_ops_nil | apply p_blk | apply p_exit_it | apply p_exit_hit | apply p_ret_it | apply p_ret_blk | apply p_panic_it | apply p_panic_blk | apply p_end
            | (apply p_exit_miss; (focus rfl))
            | (apply x_region; simp only [List.toList_toArray])
            | (apply x_step0; (focus rfl); (focus (simp only [go_sem, *]; (try rfl); done)); (focus rfl); simp only [putA])
            | (apply x_callA []; (focus (simp only [go_sem, *]; (try rfl); done)); (focus rfl); (focus (simp only [go_sem, *]; (try rfl); done)); (focus rfl); (iterate 2 (focus (simp only [go_sem, *]; (try rfl); done))); (first | (apply ca.out) | (apply cb.out) | (apply hwi.out)); simp only [afterCall, putA])
            | (apply x_panic; (focus (simp only [go_sem, *]; (try rfl); done)); (focus rfl); (focus (simp only [go_sem, *]; (try rfl); done)))
            | (apply x_step; (iterate 2 (focus (simp only [go_sem, *]; (try rfl); done))); (focus rfl); simp only [putA])
            | (apply x_unwanted; (focus (simp only [go_sem, *]; (try rfl); done)); (focus rfl); simp only [putA])
            | (apply x_condT; (focus (simp only [go_sem, *]; (try rfl); done)))
            | (apply x_condF; (focus (simp only [go_sem, *]; (try rfl); done)))
            | (apply x_guardS; (focus rfl); (fail_if_success (focus (show _ = some true; (focus (simp only [go_sem, *]; (try rfl); done))))); (focus (simp only [go_sem, *]; (try rfl); done)); all_goals (intro hb; try simp only [Bool.not_eq_true', Bool.not_eq_false'] at hb))
            | (apply x_condS; (focus (simp only [go_sem, *]; (try rfl); done)); all_goals (intro hb; try simp only [Bool.not_eq_true', Bool.not_eq_false'] at hb))
            | apply x_loop | apply x_lp
          (apply f_ret; iterate 7 (focus (simp only [go_sem, *, Tryz.results23]; (try rfl); done)))
          exact h
end Go.Proofs.YtnndmokndgnidaaGreatDoor
namespace Go.Proofs.YtnndmokndgnidaaGreatDoor
open Go Go.Fen
set_option linter.unusedSimpArgs false
set_option linter.unusedVariables false
attribute [local irreducible] RunX WP ACall AnyP OpA ProtL
set_option maxRecDepth 8000
def refB (s : List UInt8) (c : Int) : Bool := decide (parseS s = (zeroR, c)) && (match recP s with | none => true | some r => decide (r.items.length ≤ 5000))
theorem ref_of {s : List UInt8} {c : Int} (h : refB s c = true) : Ref s c := by
  unfold refB at h
  simp only [Bool.and_eq_true, decide_eq_true_eq] at h
  refine ⟨h.1, fun r hr => ?_⟩
  have h2 := h.2
  rw [hr] at h2
  simp only [decide_eq_true_eq] at h2
  omega
theorem kA0 : Ref [] 6 := ref_of (by decide +kernel)
theorem kA1 : Ref [102, 101, 110, 101, 115, 116, 114, 97, 32, 49, 32, 49, 48, 32, 51] 6 := ref_of (by decide +kernel)
theorem kA2 : Ref [102, 101, 110, 101, 115, 116, 114, 97, 32, 50, 32, 49, 48, 32, 51, 10] 6 := ref_of (by decide +kernel)
theorem kA3 : Ref [102, 101, 110, 101, 115, 116, 114, 97, 32, 49, 32, 49, 48, 32, 32, 51, 10] 6 := ref_of (by decide +kernel)
theorem kA4 : Ref [102, 101, 110, 101, 115, 116, 114, 97, 32, 49, 32, 49, 48, 10] 6 := ref_of (by decide +kernel)
theorem kA5 : Ref [102, 101, 110, 101, 115, 116, 114, 97, 32, 49, 32, 49, 48, 32, 51, 10, 10] 6 := ref_of (by decide +kernel)
theorem kA6 : Ref [102, 101, 110, 101, 115, 116, 114, 97, 32, 49, 32, 49, 48, 32, 51, 10, 49, 32, 111, 32, 34, 97, 34] 6 := ref_of (by decide +kernel)
theorem kA7 : Ref [102, 101, 110, 101, 115, 116, 114, 97, 32, 49, 32, 49, 48, 32, 51, 10, 49, 32, 111, 32, 97, 10] 6 := ref_of (by decide +kernel)
theorem kA8 : Ref [102, 101, 110, 101, 115, 116, 114, 97, 32, 49, 32, 49, 48, 32, 51, 10, 49, 32, 120, 32, 34, 97, 34, 10] 6 := ref_of (by decide +kernel)
theorem kA9 : Ref [102, 101, 110, 101, 115, 116, 114, 97, 32, 49, 32, 49, 48, 32, 51, 10, 49, 32, 111, 32, 34, 97, 34, 32, 10] 6 := ref_of (by decide +kernel)
theorem kA10 : Ref [102, 101, 110, 101, 115, 116, 114, 97, 32, 49, 32, 49, 48, 32, 51, 10, 48, 48, 48, 48, 48, 48, 48, 49, 32, 109, 32, 34, 34, 10] 6 := ref_of (by decide +kernel)
theorem kA11 : Ref [102, 101, 110, 101, 115, 116, 114, 97, 32, 49, 32, 49, 48, 32, 51, 10, 45, 49, 32, 109, 32, 34, 34, 10] 6 := ref_of (by decide +kernel)
theorem kA12 : Ref [102, 101, 110, 101, 115, 116, 114, 97, 32, 49, 32, 49, 48, 32, 51, 10, 49, 32, 109, 32, 34, 92, 116, 34, 10] 6 := ref_of (by decide +kernel)
theorem kA13 : Ref [102, 101, 110, 101, 115, 116, 114, 97, 32, 49, 32, 49, 48, 32, 51, 10, 49, 32, 109, 32, 34, 92, 120, 49, 34, 10] 6 := ref_of (by decide +kernel)
theorem kB0 : Ref [102, 101, 110, 101, 115, 116, 114, 97, 32, 49, 32, 49, 32, 51, 10] 520 := ref_of (by decide +kernel)
theorem kB1 : Ref [102, 101, 110, 101, 115, 116, 114, 97, 32, 49, 32, 49, 48, 32, 52, 49, 10] 520 := ref_of (by decide +kernel)
theorem kB2 : Ref [102, 101, 110, 101, 115, 116, 114, 97, 32, 49, 32, 49, 48, 32, 51, 10, 49, 48, 48, 48, 48, 48, 49, 32, 109, 32, 34, 34, 10] 520 := ref_of (by decide +kernel)
theorem kB3 : Ref [102, 101, 110, 101, 115, 116, 114, 97, 32, 49, 32, 49, 48, 32, 51, 10, 49, 32, 114, 32, 56, 49, 32, 51, 10] 520 := ref_of (by decide +kernel)
theorem kC : Ref (([102, 101, 110, 101, 115, 116, 114, 97, 32, 49, 32, 49, 48, 32, 51, 10, 49, 32, 109, 32, 34] ++ Lib.repeatL [120] 201) ++ [34, 10]) 520 := ref_of (by decide +kernel)
theorem kD : Ref ([102, 101, 110, 101, 115, 116, 114, 97, 32, 49, 32, 49, 48, 32, 51, 10] ++ Lib.repeatL [48, 32, 109, 32, 34, 34, 10] 1001) 520 := ref_of (by decide +kernel)
theorem kE : Ref (([102, 101, 110, 101, 115, 116, 114, 97, 32, 49, 32, 49, 48, 32, 51, 10] ++ Lib.repeatL [48, 32, 109, 32, 34, 34, 10] 1001) ++ [120]) 6 := ref_of (by decide +kernel)
theorem kF : Ref (Lib.repeatL [120] 1048577) 3 := by
  refine ⟨?_, fun r hr => ?_⟩
  · unfold parseS
    rw [if_pos (by rw [Lib.repeatL_length]; decide)]
  · exfalso
    rw [show (1048577 : Nat) = 1048576 + 1 from rfl] at hr
    unfold Lib.repeatL recP oneP at hr
    simp at hr
def wideR : Rec := ⟨10, 3, [⟨7, 2, 0, 0, [65, 255, 92, 34]⟩]⟩
theorem wide_parse : parseS [102, 101, 110, 101, 115, 116, 114, 97, 32, 49, 32, 48, 49, 48, 32, 51, 10, 48, 48, 48, 48, 48, 48, 55, 32, 105, 32, 34, 92, 120, 52, 49, 92, 120, 70, 102, 92, 92, 92, 34, 34, 10] = (wideR, 0) := by decide +kernel
theorem wide_recP : recP [102, 101, 110, 101, 115, 116, 114, 97, 32, 49, 32, 48, 49, 48, 32, 51, 10, 48, 48, 48, 48, 48, 48, 55, 32, 105, 32, 34, 92, 120, 52, 49, 92, 120, 70, 102, 92, 92, 92, 34, 34, 10] = some wideR := by decide +kernel
theorem wide_print : printS wideR = [102, 101, 110, 101, 115, 116, 114, 97, 32, 49, 32, 49, 48, 32, 51, 10, 55, 32, 105, 32, 34, 65, 92, 120, 102, 102, 92, 92, 92, 34, 34, 10] := by decide +kernel
theorem wide_check : checkB wideR = true := by decide +kernel
def fullR : Rec := ⟨80, 40, List.replicate 1000 ⟨1000000, 4, 0, 0, []⟩⟩
theorem full_check : checkB fullR = true := by decide +kernel
theorem full_long : tmz fullR.items fullR.items.length = 1000000000 := by decide +kernel
theorem full_join : joinS fullR ⟨2, 1, []⟩ 0 = (zeroR, 3) := by decide +kernel
theorem full_slow : fasterS fullR 2 1 = (zeroR, 3) := by decide +kernel
theorem full_arg : fasterS fullR 1 0 = (zeroR, 2) := by decide +kernel
theorem full_idle : idleS fullR 1000001 = (zeroR, 2) := by decide +kernel
theorem full_cut : cutS fullR 5 4 = (zeroR, 2) := by decide +kernel
theorem full_bad : joinS zeroR fullR (-1) = (zeroR, 520) := by decide +kernel
theorem small_check : checkB ⟨2, 1, []⟩ = true := by decide +kernel
end Go.Proofs.YtnndmokndgnidaaGreatDoor
namespace Go.Proofs.YtnndmokndgnidaaGreatDoor
open Go Go.Fen
set_option linter.unusedSimpArgs false
set_option linter.unusedVariables false
attribute [local irreducible] RunX WP ACall AnyP OpA ProtL
set_option maxRecDepth 8000
set_option maxHeartbeats 64000000 in
theorem knownLaw (w0 : World) (hT : Tab w0) (hS : Syn w0) (S : List Blk) (R : AOut → List Blk → Prop) (h : R (.ret (.bool true)) S) :
    ACall Tryz.prog w0 5 [] S R := by
  have hrf : ∀ S' s c, Ref s c → ∀ (R : AOut → List Blk → Prop), R (.ret (.bool true)) S' → ACall Tryz.prog w0 25 [.str s, .int .i64 c] S' R := fun S' s c hs R h => refused w0 (parseUint w0 hS) S' s c hs R h
  have hwo := works w0 hT (parseUint w0 hS)
  obtain ⟨x1, hx1, l1⟩ : ∃ x1, Lib.repeatL [120] 201 = x1 ∧ x1.length = 201 := ⟨_, rfl, by rw [Lib.repeatL_length]; rfl⟩
  obtain ⟨x2, hx2, l2⟩ : ∃ x2, Lib.repeatL [48, 32, 109, 32, 34, 34, 10] 1001 = x2 ∧ x2.length = 7007 := ⟨_, rfl, by rw [Lib.repeatL_length]; rfl⟩
  obtain ⟨x3, hx3⟩ : ∃ x3, Lib.repeatL [120] 1048577 = x3 := ⟨_, rfl⟩
  have kc := kC
  have kd := kD
  have ke := kE
  have kf := kF
  rw [hx1] at kc
  rw [hx2] at kd ke
  rw [hx3] at kf
  have p1 : ∀ S' (R : AOut → List Blk → Prop), R (.ret (.str x1)) S' → ACall Tryz.prog w0 26 [.str [120], .int .i64 201] S' R := fun S' R h => repeatS w0 S' [120] 201 (by decide) (by decide) R (by rw [hx1]; exact h)
  have p2 : ∀ S' (R : AOut → List Blk → Prop), R (.ret (.str x2)) S' → ACall Tryz.prog w0 26 [.str [48, 32, 109, 32, 34, 34, 10], .int .i64 1001] S' R := fun S' R h => repeatS w0 S' [48, 32, 109, 32, 34, 34, 10] 1001 (by decide) (by decide) R (by rw [hx2]; exact h)
  have p3 : ∀ S' (R : AOut → List Blk → Prop), R (.ret (.str x3)) S' → ACall Tryz.prog w0 26 [.str [120], .int .i64 1048577] S' R := fun S' R h => repeatS w0 S' [120] 1048577 (by decide) (by decide) R (by rw [hx3]; exact h)
  have b0 := kB0
  have b1 := kB1
  have b2 := kB2
  have b3 := kB3
  obtain ⟨wi, hwi⟩ : ∃ wi, wideR = ⟨10, 3, wi⟩ := ⟨_, rfl⟩
  obtain ⟨fi, hfr, hfi⟩ : ∃ fi, fullR = ⟨80, 40, fi⟩ ∧ fi = List.replicate 1000 ⟨1000000, 4, 0, 0, []⟩ := ⟨_, rfl, rfl⟩
  have hfl : fi.length = 1000 := by rw [hfi]; simp
  have hm : (fi.length : Int) < 9223372036854775807 := by omega
  have f1 := full_check
  have f2 := full_long
  have f3 := full_join
  have f4 := full_slow
  have f5 := full_arg
  have f6 := full_idle
  have f7 := full_cut
  have f8 := full_bad
  rw [hfr] at f1 f2 f3 f4 f5 f6 f7 f8
  have t1 : ∀ S' (R : AOut → List Blk → Prop), R (.ret (.tup [.agg [.int .i64 10, .int .i64 3, .sval false (List.map It.av wi)], .int .i64 0])) S' → ACall Tryz.prog w0 27 [.str [102, 101, 110, 101, 115, 116, 114, 97, 32, 49, 32, 48, 49, 48, 32, 51, 10, 48, 48, 48, 48, 48, 48, 55, 32, 105, 32, 34, 92, 120, 52, 49, 92, 120, 70, 102, 92, 92, 92, 34, 34, 10]] S' R := fun S' R h => parse w0 (parseUint w0 hS) S' _ (by intro r hr; rw [wide_recP] at hr; cases hr; decide) R (by rw [wide_parse, hwi]; exact h)
  have t2 : ∀ S' (R : AOut → List Blk → Prop), R (.ret (.tup [.str [102, 101, 110, 101, 115, 116, 114, 97, 32, 49, 32, 49, 48, 32, 51, 10, 55, 32, 105, 32, 34, 65, 92, 120, 102, 102, 92, 92, 92, 34, 34, 10], .int .i64 0])) S' → ACall Tryz.prog w0 9 [.agg [.int .i64 10, .int .i64 3, .sval false (List.map It.av wi)]] S' R := fun S' R h => by
    have := print w0 hT S' wideR (by decide) R (by rw [wide_check, if_pos rfl, if_pos rfl, wide_print]; exact h)
    rw [hwi] at this
    exact this
  have t3 : ∀ S' (R : AOut → List Blk → Prop), R (.ret (.tup [.int .i64 1000000000, .int .i64 0])) S' → ACall Tryz.prog w0 11 [.agg [.int .i64 80, .int .i64 40, .sval false (List.map It.av fi)]] S' R := fun S' R h => long w0 S' ⟨80, 40, fi⟩ hm R (by rw [if_pos f1, f2]; exact h)
  have t4 : ∀ S' (R : AOut → List Blk → Prop), R (.ret (.tup [.agg [.int .i64 0, .int .i64 0, .sval false []], .int .i64 3])) S' → ACall Tryz.prog w0 23 [.agg [.int .i64 80, .int .i64 40, .sval false (List.map It.av fi)], .agg [.int .i64 2, .int .i64 1, .sval false []], .int .i64 0] S' R := fun S' R h => join w0 S' ⟨80, 40, fi⟩ ⟨2, 1, []⟩ hm (by decide) 0 R (by rw [f3]; exact h)
  have t5 : ∀ S' (R : AOut → List Blk → Prop), R (.ret (.tup [.agg [.int .i64 0, .int .i64 0, .sval false []], .int .i64 3])) S' → ACall Tryz.prog w0 28 [.agg [.int .i64 80, .int .i64 40, .sval false (List.map It.av fi)], .int .i64 2, .int .i64 1] S' R := fun S' R h => faster w0 S' ⟨80, 40, fi⟩ hm 2 1 R (by rw [f4]; exact h)
  have t6 : ∀ S' (R : AOut → List Blk → Prop), R (.ret (.tup [.agg [.int .i64 0, .int .i64 0, .sval false []], .int .i64 2])) S' → ACall Tryz.prog w0 28 [.agg [.int .i64 80, .int .i64 40, .sval false (List.map It.av fi)], .int .i64 1, .int .i64 0] S' R := fun S' R h => faster w0 S' ⟨80, 40, fi⟩ hm 1 0 R (by rw [f5]; exact h)
  have t7 : ∀ S' (R : AOut → List Blk → Prop), R (.ret (.tup [.agg [.int .i64 0, .int .i64 0, .sval false []], .int .i64 2])) S' → ACall Tryz.prog w0 29 [.agg [.int .i64 80, .int .i64 40, .sval false (List.map It.av fi)], .int .i64 1000001] S' R := fun S' R h => idle w0 S' ⟨80, 40, fi⟩ hm 1000001 R (by rw [f6]; exact h)
  have t8 : ∀ S' (R : AOut → List Blk → Prop), R (.ret (.tup [.agg [.int .i64 0, .int .i64 0, .sval false []], .int .i64 2])) S' → ACall Tryz.prog w0 20 [.agg [.int .i64 80, .int .i64 40, .sval false (List.map It.av fi)], .int .i64 5, .int .i64 4] S' R := fun S' R h => cut w0 S' ⟨80, 40, fi⟩ hm 5 4 R (by rw [f7]; exact h)
  have t9 : ∀ S' (R : AOut → List Blk → Prop), R (.ret (.tup [.agg [.int .i64 0, .int .i64 0, .sval false []], .int .i64 520])) S' → ACall Tryz.prog w0 23 [.agg [.int .i64 0, .int .i64 0, .sval false []], .agg [.int .i64 80, .int .i64 40, .sval false (List.map It.av fi)], .int .i64 (-1)] S' R := fun S' R h => join w0 S' zeroR ⟨80, 40, fi⟩ (by decide) hm (-1) R (by rw [f8]; exact h)
  have u1 : ∀ S' (R : AOut → List Blk → Prop), R (.ret (.tup [.int .i64 0, .int .i64 0])) S' → ACall Tryz.prog w0 11 [.agg [.int .i64 2, .int .i64 1, .sval false []]] S' R := fun S' R h => long w0 S' ⟨2, 1, []⟩ (by decide) R (by rw [if_pos small_check]; exact h)
  clear f1 f2 f3 f4 f5 f6 f7 f8 hx1 hx2 hx3 hwi hfr hT hS
  replace hrf := Lib.hid hrf
  replace hwo := Lib.hid hwo
  replace p1 := Lib.hid p1
  replace p2 := Lib.hid p2
  replace p3 := Lib.hid p3
  replace t1 := Lib.hid t1
  replace t2 := Lib.hid t2
  replace t3 := Lib.hid t3
  replace t4 := Lib.hid t4
  replace t5 := Lib.hid t5
  replace t6 := Lib.hid t6
  replace t7 := Lib.hid t7
  replace t8 := Lib.hid t8
  replace t9 := Lib.hid t9
  replace u1 := Lib.hid u1
  have Hkc := Lib.hid kc
  have Hkd := Lib.hid kd
  have Hke := Lib.hid ke
  have Hkf := Lib.hid kf
  have Hl1 := Lib.hid l1
  have Hl2 := Lib.hid l2
  have Hb0 := Lib.hid b0
  have Hb1 := Lib.hid b1
  have Hb2 := Lib.hid b2
  have Hb3 := Lib.hid b3
  have Hhfi := Lib.hid hfi
  have Hhfl := Lib.hid hfl
  have Hhm := Lib.hid hm
  clear kc kd ke kf l1 l2 b0 b1 b2 b3 hfi hfl hm
  refine enter Tryz.func5 rfl (by decide +kernel) (by rw [Tryz.ntmps5]; simp) (by rw [Tryz.ntmps5]; decide) (fun hO => ?_); rw [Tryz.ntmps5]
  repeat' first
    | apply x_seq | apply x_skip | apply x_block | apply x_exit | apply x_ret | apply x_ops_nil | apply p_blk | apply p_exit_it | apply p_exit_hit | apply p_ret_it | apply p_ret_blk | apply p_panic_it | apply p_panic_blk | apply p_end
    | (apply p_exit_miss; (focus rfl))
    | (apply x_region; simp only [List.toList_toArray])
    | (apply x_step0; (focus rfl); (focus (simp only [go_sem, *]; (try rfl); done)); (focus rfl); simp only [putA])
    | (apply x_panic; (focus (simp only [go_sem, *]; (try rfl); done)); (focus rfl); (focus (simp only [go_sem, *]; (try rfl); done)))
    | (apply x_step; (iterate 2 (focus (simp only [go_sem, *]; (try rfl); done))); (focus rfl); simp only [putA])
    | (apply x_unwanted; (focus (simp only [go_sem, *]; (try rfl); done)); (focus rfl); simp only [putA])
    | (apply x_condT; (focus (simp only [go_sem, *]; (try rfl); done)))
    | (apply x_condF; (focus (simp only [go_sem, *]; (try rfl); done)))
    | (apply x_guardS; (focus rfl); (fail_if_success (focus (show _ = some true; (focus (simp only [go_sem, *]; (try rfl); done))))); (focus (simp only [go_sem, *]; (try rfl); done)); all_goals (intro hb; try simp only [Bool.not_eq_true', Bool.not_eq_false'] at hb))
    | (apply x_condS; (focus (simp only [go_sem, *]; (try rfl); done)); all_goals (intro hb; try simp only [Bool.not_eq_true', Bool.not_eq_false'] at hb))
  refine x_gen [1000000, 27, 28] ?_
  intro env1 hA
  simp only [agreeL, go_sem] at hA
  obtain ⟨q0, q27, q28⟩ := hA
  obtain ⟨s0, s1, s2, s3, s4, s5, s6, s7, s8, s9, s10, s11, s12, s13, h27, r0, r1, r2, r3, r4, r5, r6, r7, r8, r9, r10, r11, r12, r13⟩ : ∃ s0 s1 s2 s3 s4 s5 s6 s7 s8 s9 s10 s11 s12 s13 : List UInt8, env1 27 = AV.agg [.str s0, .str s1, .str s2, .str s3, .str s4, .str s5, .str s6, .str s7, .str s8, .str s9, .str s10, .str s11, .str s12, .str s13] ∧ Ref s0 6 ∧ Ref s1 6 ∧ Ref s2 6 ∧ Ref s3 6 ∧ Ref s4 6 ∧ Ref s5 6 ∧ Ref s6 6 ∧ Ref s7 6 ∧ Ref s8 6 ∧ Ref s9 6 ∧ Ref s10 6 ∧ Ref s11 6 ∧ Ref s12 6 ∧ Ref s13 6 := ⟨[], [102, 101, 110, 101, 115, 116, 114, 97, 32, 49, 32, 49, 48, 32, 51], [102, 101, 110, 101, 115, 116, 114, 97, 32, 50, 32, 49, 48, 32, 51, 10], [102, 101, 110, 101, 115, 116, 114, 97, 32, 49, 32, 49, 48, 32, 32, 51, 10], [102, 101, 110, 101, 115, 116, 114, 97, 32, 49, 32, 49, 48, 10], [102, 101, 110, 101, 115, 116, 114, 97, 32, 49, 32, 49, 48, 32, 51, 10, 10], [102, 101, 110, 101, 115, 116, 114, 97, 32, 49, 32, 49, 48, 32, 51, 10, 49, 32, 111, 32, 34, 97, 34], [102, 101, 110, 101, 115, 116, 114, 97, 32, 49, 32, 49, 48, 32, 51, 10, 49, 32, 111, 32, 97, 10], [102, 101, 110, 101, 115, 116, 114, 97, 32, 49, 32, 49, 48, 32, 51, 10, 49, 32, 120, 32, 34, 97, 34, 10], [102, 101, 110, 101, 115, 116, 114, 97, 32, 49, 32, 49, 48, 32, 51, 10, 49, 32, 111, 32, 34, 97, 34, 32, 10], [102, 101, 110, 101, 115, 116, 114, 97, 32, 49, 32, 49, 48, 32, 51, 10, 48, 48, 48, 48, 48, 48, 48, 49, 32, 109, 32, 34, 34, 10], [102, 101, 110, 101, 115, 116, 114, 97, 32, 49, 32, 49, 48, 32, 51, 10, 45, 49, 32, 109, 32, 34, 34, 10], [102, 101, 110, 101, 115, 116, 114, 97, 32, 49, 32, 49, 48, 32, 51, 10, 49, 32, 109, 32, 34, 92, 116, 34, 10], [102, 101, 110, 101, 115, 116, 114, 97, 32, 49, 32, 49, 48, 32, 51, 10, 49, 32, 109, 32, 34, 92, 120, 49, 34, 10], q27, kA0, kA1, kA2, kA3, kA4, kA5, kA6, kA7, kA8, kA9, kA10, kA11, kA12, kA13⟩
  clear q27
  refine x_ind (fun (j : Nat) env S' => j ≤ 14 ∧ env 1000000 = .dfr [] ∧ env 27 = env1 27 ∧ env 28 = .int .i64 j ∧ S' = S) (fun j => 14 - j) 0 ?_ ?_
  · exact ⟨by omega, q0, rfl, q28, rfl⟩
  · rintro j env S' ⟨hj, e0, e27, e28, rfl⟩ IH
    have HI := Lib.hid IH
    clear IH q0 q28
    by_cases hj2 : j = 14
    · subst hj2
      clear HI r0 r1 r2 r3 r4 r5 r6 r7 r8 r9 r10 r11 r12 r13
      have kc := Hkc.out
      have kd := Hkd.out
      have ke := Hke.out
      have kf := Hkf.out
      simp only [List.cons_append, List.nil_append] at kc kd ke
      have l1 := Hl1.out
      have l2 := Hl2.out
      have b0 := Hb0.out
      have b1 := Hb1.out
      have b2 := Hb2.out
      have b3 := Hb3.out
      clear e27 h27
      repeat' first
        | apply x_seq | apply x_skip | apply x_block | apply x_exit | apply x_ret | apply x_ops_nil | apply p_blk | apply p_exit_it | apply p_exit_hit | apply p_ret_it | apply p_ret_blk | apply p_panic_it | apply p_panic_blk | apply p_end
        | (apply p_exit_miss; (focus rfl))
        | (apply x_region; simp only [List.toList_toArray])
        | (apply x_step0; (focus rfl); (focus (simp only [go_sem, *, List.length_append, List.length_cons, List.length_nil]; (try rfl); done)); (focus rfl); simp only [putA])
        | (apply x_callA []; (focus (simp only [go_sem, *, List.length_append, List.length_cons, List.length_nil]; (try rfl); done)); (focus rfl); (focus (simp only [go_sem, *, List.length_append, List.length_cons, List.length_nil]; (try rfl); done)); (focus rfl); (iterate 2 (focus (simp only [go_sem, *, List.length_append, List.length_cons, List.length_nil]; (try rfl); done))); (first | (apply hrf.out; (focus (simp only [go_sem, *, List.length_append, List.length_cons, List.length_nil]; (try rfl); done))) | (apply p1.out) | (apply p2.out) | (apply p3.out) | (apply t1.out) | (apply t2.out)); simp only [afterCall, putA])
        | (apply x_panic; (focus (simp only [go_sem, *, List.length_append, List.length_cons, List.length_nil]; (try rfl); done)); (focus rfl); (focus (simp only [go_sem, *, List.length_append, List.length_cons, List.length_nil]; (try rfl); done)))
        | (apply x_step; (iterate 2 (focus (simp only [go_sem, *, List.length_append, List.length_cons, List.length_nil]; (try rfl); done))); (focus rfl); simp only [putA])
        | (apply x_unwanted; (focus (simp only [go_sem, *, List.length_append, List.length_cons, List.length_nil]; (try rfl); done)); (focus rfl); simp only [putA])
        | (apply x_condT; (focus (simp only [go_sem, *, List.length_append, List.length_cons, List.length_nil]; (try rfl); done)))
        | (apply x_condF; (focus (simp only [go_sem, *, List.length_append, List.length_cons, List.length_nil]; (try rfl); done)))
        | (apply x_guardS; (focus rfl); (fail_if_success (focus (show _ = some true; (focus (simp only [go_sem, *, List.length_append, List.length_cons, List.length_nil]; (try rfl); done))))); (focus (simp only [go_sem, *, List.length_append, List.length_cons, List.length_nil]; (try rfl); done)); all_goals (intro hb; try simp only [Bool.not_eq_true', Bool.not_eq_false'] at hb))
        | (apply x_condS; (focus (simp only [go_sem, *, List.length_append, List.length_cons, List.length_nil]; (try rfl); done)); all_goals (intro hb; try simp only [Bool.not_eq_true', Bool.not_eq_false'] at hb))
      clear kc kd ke kf l1 l2 b0 b1 b2 b3
      refine x_ind (fun (k : Nat) env' S2 => k ≤ 1000 ∧ env' 1000000 = .dfr [] ∧ env' 3 = .bool true ∧ env' 8 = .bool true ∧ env' 9 = .own (S'.length + 2) 0 ∧ env' 10 = .int .i64 k ∧ ∃ l : List It, l.length = 1000 ∧ (∀ j, j < k → l[j]? = some ⟨1000000, 4, 0, 0, []⟩) ∧ S2 = S' ++ [Blk.cells [AV.int .i64 10, AV.int .i64 3, AV.sval false (List.map It.av wi)], Blk.arr 29 5 0 0 (List.map It.av l), Blk.cells [AV.int .i64 80, AV.int .i64 40, AV.sown (S'.length + 1) 0 1000]]) (fun k => 1000 - k) 0 ?_ ?_
      · refine ⟨by omega, ?_, ?_, ?_, ?_, ?_, List.replicate 1000 ⟨0, 0, 0, 0, []⟩, by rw [List.length_replicate], fun j hj => absurd hj (by omega), ?_⟩
        · (simp only [go_sem, *]; try rfl)
        · (simp only [go_sem, *]; try rfl)
        · (simp only [go_sem, *]; try rfl)
        · (simp only [go_sem, *]; try rfl)
        · (simp only [go_sem, *]; try rfl)
        · rw [List.map_replicate]
          rfl
      · rintro k env2 S2 ⟨hk, z0, z3, z8, z9, z10, l, hll, hlf, rfl⟩ JH
        have HJ := Lib.hid JH
        have Hlf := Lib.hid hlf
        clear JH hlf e0
        by_cases hk2 : k = 1000
        · subst hk2
          have hle : l = fi := by
            rw [Hhfi.out]
            apply List.ext_getElem?
            intro j
            by_cases hj : j < 1000
            · rw [Hlf.out j hj, List.getElem?_replicate, if_pos hj]
            · rw [List.getElem?_eq_none (by omega), List.getElem?_eq_none (by rw [List.length_replicate]; omega)]
          subst hle
          clear hk HJ Hlf
          refine x_mark (S'.length + 1) (by (simp only [go_sem, *]; try rfl)) ?_
          repeat' first
            | apply x_seq | apply x_skip | apply x_block | apply x_exit | apply x_ret | apply x_ops_nil | apply p_blk | apply p_exit_it | apply p_exit_hit | apply p_ret_it | apply p_ret_blk | apply p_panic_it | apply p_panic_blk | apply p_end
            | (apply p_exit_miss; (focus rfl))
            | (apply x_region; simp only [List.toList_toArray])
            | (apply x_step0; (focus rfl); (focus (simp only [go_sem, *]; (try rfl); done)); (focus rfl); simp only [putA])
            | (apply x_callA []; (focus (simp only [go_sem, *]; (try rfl); done)); (focus rfl); (focus (simp only [go_sem, *]; (try rfl); done)); (focus rfl); (iterate 2 (focus (simp only [go_sem, *]; (try rfl); done))); (first | (apply t3.out) | (apply t4.out) | (apply t5.out) | (apply t6.out) | (apply t7.out) | (apply t8.out) | (apply t9.out) | (apply u1.out) | (apply hwo.out)); simp only [afterCall, putA])
            | (apply x_panic; (focus (simp only [go_sem, *]; (try rfl); done)); (focus rfl); (focus (simp only [go_sem, *]; (try rfl); done)))
            | (apply x_step; (iterate 2 (focus (simp only [go_sem, *]; (try rfl); done))); (focus rfl); simp only [putA])
            | (apply x_unwanted; (focus (simp only [go_sem, *]; (try rfl); done)); (focus rfl); simp only [putA])
            | (apply x_condT; (focus (simp only [go_sem, *]; (try rfl); done)))
            | (apply x_condF; (focus (simp only [go_sem, *]; (try rfl); done)))
            | (apply x_guardS; (focus rfl); (fail_if_success (focus (show _ = some true; (focus (simp only [go_sem, *]; (try rfl); done))))); (focus (simp only [go_sem, *]; (try rfl); done)); all_goals (intro hb; try simp only [Bool.not_eq_true', Bool.not_eq_false'] at hb))
            | (apply x_condS; (focus (simp only [go_sem, *]; (try rfl); done)); all_goals (intro hb; try simp only [Bool.not_eq_true', Bool.not_eq_false'] at hb))
          (apply f_ret; iterate 7 (focus (simp only [go_sem, *, Tryz.results5]; (try rfl); done)))
          exact h
        · have hlt : k < l.length := by omega
          obtain ⟨z, hz⟩ : ∃ z, l[k]? = some z := ⟨_, List.getElem?_eq_getElem hlt⟩
          have d1 : decide ((k : Int) < 1000) = true := by simp; omega
          have d2 : (k : Int) < ((1000 : Nat) : Int) := by omega
          have hw : IntKind.i64.wrap ((k : Int) + 1) = ↑k + 1 := IntWalk.i64_in _ (by omega)
          have okA := It.ok l
          simp only [okEls, AV.cells] at okA
          have Hk := Lib.hid hk
          have Hk2 := Lib.hid hk2
          clear hk hk2 hlt
          repeat' first
            | apply x_seq | apply x_skip | apply x_block | apply x_exit | apply x_ret | apply x_ops_nil | apply p_blk | apply p_exit_it | apply p_exit_hit | apply p_ret_it | apply p_ret_blk | apply p_panic_it | apply p_panic_blk | apply p_end
            | (apply p_exit_miss; (focus rfl))
            | (apply x_region; simp only [List.toList_toArray])
            | (apply x_step0; (focus rfl); (focus (simp only [go_sem, *, It.av, List.length_map]; (try rfl); done)); (focus rfl); simp only [putA])
            | (apply x_panic; (focus (simp only [go_sem, *, It.av, List.length_map]; (try rfl); done)); (focus rfl); (focus (simp only [go_sem, *, It.av, List.length_map]; (try rfl); done)))
            | (apply x_step; (iterate 2 (focus (simp only [go_sem, *, It.av, List.length_map]; (try rfl); done))); (focus rfl); simp only [putA])
            | (apply x_unwanted; (focus (simp only [go_sem, *, It.av, List.length_map]; (try rfl); done)); (focus rfl); simp only [putA])
            | (apply x_condT; (focus (simp only [go_sem, *, It.av, List.length_map]; (try rfl); done)))
            | (apply x_condF; (focus (simp only [go_sem, *, It.av, List.length_map]; (try rfl); done)))
            | (apply x_guardS; (focus rfl); (fail_if_success (focus (show _ = some true; (focus (simp only [go_sem, *, It.av, List.length_map]; (try rfl); done))))); (focus (simp only [go_sem, *, It.av, List.length_map]; (try rfl); done)); all_goals (intro hb; try simp only [Bool.not_eq_true', Bool.not_eq_false'] at hb))
            | (apply x_condS; (focus (simp only [go_sem, *, It.av, List.length_map]; (try rfl); done)); all_goals (intro hb; try simp only [Bool.not_eq_true', Bool.not_eq_false'] at hb))
          refine HJ.out (k + 1) _ _ (by have := Hk.out; have := Hk2.out; omega) ⟨by have := Hk.out; have := Hk2.out; omega, ?_, ?_, ?_, ?_, ?_, l.set k ⟨1000000, 4, 0, 0, []⟩, by rw [List.length_set]; exact hll, ?_, ?_⟩
          · (simp only [go_sem, *]; try rfl)
          · (simp only [go_sem, *]; try rfl)
          · (simp only [go_sem, *]; try rfl)
          · (simp only [go_sem, *]; try rfl)
          · (simp only [go_sem, *]; try rfl)
          · intro j hj
            by_cases e : j = k
            · subst e
              rw [List.getElem?_set_self (by omega)]
            · rw [List.getElem?_set_ne (by omega)]
              exact Hlf.out j (by omega)
          · rw [List.map_set]
            rfl
    · have hk : j = 0 ∨ j = 1 ∨ j = 2 ∨ j = 3 ∨ j = 4 ∨ j = 5 ∨ j = 6 ∨ j = 7 ∨ j = 8 ∨ j = 9 ∨ j = 10 ∨ j = 11 ∨ j = 12 ∨ j = 13 := by omega
      rw [h27] at e27
      clear hj hj2
      rcases hk with rfl | rfl | rfl | rfl | rfl | rfl | rfl | rfl | rfl | rfl | rfl | rfl | rfl | rfl
      all_goals
        repeat' first
          | apply x_seq | apply x_skip | apply x_block | apply x_exit | apply x_ret | apply x_ops_nil | apply p_blk | apply p_exit_it | apply p_exit_hit | apply p_ret_it | apply p_ret_blk | apply p_panic_it | apply p_panic_blk | apply p_end
          | (apply p_exit_miss; (focus rfl))
          | (apply x_region; simp only [List.toList_toArray])
          | (apply x_step0; (focus rfl); (focus (simp only [go_sem, *]; (try rfl); done)); (focus rfl); simp only [putA])
          | (apply x_callA []; (focus (simp only [go_sem, *]; (try rfl); done)); (focus rfl); (focus (simp only [go_sem, *]; (try rfl); done)); (focus rfl); (iterate 2 (focus (simp only [go_sem, *]; (try rfl); done))); (first | (apply hrf.out; (focus (simp only [go_sem, *]; (try rfl); done)))); simp only [afterCall, putA])
          | (apply x_panic; (focus (simp only [go_sem, *]; (try rfl); done)); (focus rfl); (focus (simp only [go_sem, *]; (try rfl); done)))
          | (apply x_step; (iterate 2 (focus (simp only [go_sem, *]; (try rfl); done))); (focus rfl); simp only [putA])
          | (apply x_unwanted; (focus (simp only [go_sem, *]; (try rfl); done)); (focus rfl); simp only [putA])
          | (apply x_condT; (focus (simp only [go_sem, *]; (try rfl); done)))
          | (apply x_condF; (focus (simp only [go_sem, *]; (try rfl); done)))
          | (apply x_guardS; (focus rfl); (fail_if_success (focus (show _ = some true; (focus (simp only [go_sem, *]; (try rfl); done))))); (focus (simp only [go_sem, *]; (try rfl); done)); all_goals (intro hb; try simp only [Bool.not_eq_true', Bool.not_eq_false'] at hb))
          | (apply x_condS; (focus (simp only [go_sem, *]; (try rfl); done)); all_goals (intro hb; try simp only [Bool.not_eq_true', Bool.not_eq_false'] at hb))
        first
        | refine HI.out 1 _ _ (by decide) ⟨by decide, ?_, ?_, ?_, rfl⟩
        | refine HI.out 2 _ _ (by decide) ⟨by decide, ?_, ?_, ?_, rfl⟩
        | refine HI.out 3 _ _ (by decide) ⟨by decide, ?_, ?_, ?_, rfl⟩
        | refine HI.out 4 _ _ (by decide) ⟨by decide, ?_, ?_, ?_, rfl⟩
        | refine HI.out 5 _ _ (by decide) ⟨by decide, ?_, ?_, ?_, rfl⟩
        | refine HI.out 6 _ _ (by decide) ⟨by decide, ?_, ?_, ?_, rfl⟩
        | refine HI.out 7 _ _ (by decide) ⟨by decide, ?_, ?_, ?_, rfl⟩
        | refine HI.out 8 _ _ (by decide) ⟨by decide, ?_, ?_, ?_, rfl⟩
        | refine HI.out 9 _ _ (by decide) ⟨by decide, ?_, ?_, ?_, rfl⟩
        | refine HI.out 10 _ _ (by decide) ⟨by decide, ?_, ?_, ?_, rfl⟩
        | refine HI.out 11 _ _ (by decide) ⟨by decide, ?_, ?_, ?_, rfl⟩
        | refine HI.out 12 _ _ (by decide) ⟨by decide, ?_, ?_, ?_, rfl⟩
        | refine HI.out 13 _ _ (by decide) ⟨by decide, ?_, ?_, ?_, rfl⟩
        | refine HI.out 14 _ _ (by decide) ⟨by decide, ?_, ?_, ?_, rfl⟩
        · (simp only [go_sem, *]; try rfl)
        · rw [h27]; (simp only [go_sem, *]; try rfl)
        · (simp only [go_sem, *]; try rfl)
end Go.Proofs.YtnndmokndgnidaaGreatDoor
namespace Go.Proofs.YtnndmokndgnidaaGreatDoor
open Go Go.Fen
set_option linter.unusedSimpArgs false
set_option linter.unusedVariables false
attribute [local irreducible] RunX WP ACall AnyP OpA ProtL
set_option maxRecDepth 8000
open Go.ChangeShapes Go.WideShapes Go.ChangeAt Go.RowKit
theorem own : ownKnob Tryz.prog.godebug = none := by kernel_rfl
theorem laid_mem {P : Program} {W : World} {nm : String} {d : DataW Unit} : ∀ {l : List (String × DataW Unit)} {ps : List MemPlace}, DataW.LaidVars P W l ps → (nm, d) ∈ l →
    ∃ g t cs fuel p, P.globalNamed nm = some g ∧ (P.globals[g]?).map (·.type) = some t ∧ W.var? P nm = some cs ∧ DataW.trod (fun _ => ()) P W 0 (fun _ => true) false fuel t cs.toList = some (d, p) := by
  intro l
  induction l with
  | nil => intro ps _ h; cases h
  | cons x l ih =>
    intro ps h hm
    obtain ⟨nm', d'⟩ := x
    obtain ⟨g, t, cs, fuel, p, q, h1, h2, h3, h4, h5, _⟩ := h
    rcases List.mem_cons.1 hm with e | hm
    · cases e; exact ⟨g, t, cs, fuel, p, h1, h2, h3, h4⟩
    · exact ih h5 hm
def seatLaid : List (String × DataW Unit) := [("math/bits.deBruijn32tab", Rows.laid_math_bits_deBruijn32tab), ("math/bits.deBruijn64tab", Rows.laid_math_bits_deBruijn64tab), ("internal/strconv.uint64pow10", Rows.laid_internal_strconv_uint64pow10), ("unicode/utf8.acceptRanges", Rows.laid_unicode_utf8_acceptRanges), ("strconv.ErrRange", Rows.laid_strconv_ErrRange), ("strconv.ErrSyntax", Rows.laid_strconv_ErrSyntax), ("unicode/utf8.first", Rows.laid_unicode_utf8_first)]
theorem gPow : Tryz.prog.globalNamed "internal/strconv.uint64pow10" = some 1 := by kernel_rfl
theorem gSyn : Tryz.prog.globalNamed "strconv.ErrSyntax" = some 4 := by kernel_rfl
theorem tab_of {W : World} (h : laidMetH Tryz.prog seatLaid W) : Tab W := by
  rw [MakeChecks.laidMetH_plain _ _ _ (by kernel_rfl)] at h
  obtain ⟨ps, hl, _⟩ := h
  obtain ⟨g, t, cs, fuel, p, h1, h2, h3, h4⟩ := laid_mem (nm := "internal/strconv.uint64pow10") (d := Rows.laid_internal_strconv_uint64pow10) hl (by simp [seatLaid])
  obtain rfl := Option.some.inj (gPow.symm.trans h1)
  obtain rfl := Option.some.inj ((show (Tryz.prog.globals[1]?).map (·.type) = some 138 by kernel_rfl).symm.trans h2)
  have h5 := Lib.cells_of_tab (k := .u64) (zs := Lib.pow10Tab) (un_138) (un_112) (by kernel_rfl) (by kernel_rfl) h4
  unfold Tab Lib.TabIs
  rw [h3, ← h5]
theorem syn_of {W : World} (h : laidMetH Tryz.prog seatLaid W) : Syn W := by
  rw [MakeChecks.laidMetH_plain _ _ _ (by kernel_rfl)] at h
  obtain ⟨ps, hl, _⟩ := h
  obtain ⟨g, t, cs, fuel, p, h1, h2, h3, h4⟩ := laid_mem (nm := "strconv.ErrSyntax") (d := Rows.laid_strconv_ErrSyntax) hl (by simp [seatLaid])
  obtain rfl := Option.some.inj (gSyn.symm.trans h1)
  obtain rfl := Option.some.inj ((show (Tryz.prog.globals[4]?).map (·.type) = some 73 by kernel_rfl).symm.trans h2)
  cases fuel with
  | zero => simp [DataW.trod] at h4
  | succ fuel =>
  simp only [DataW.trod, un_73] at h4
  have hc := World.var?_cell gSyn h3 0
  match hcs : cs.toList, h4 with
  | [.nilIface], _ => exact ⟨.nilIface, by rw [hc, ← Array.getElem?_toList, hcs]; rfl, .inl rfl⟩
  | [.iface u v], _ => exact ⟨.iface u v, by rw [hc, ← Array.getElem?_toList, hcs]; rfl, .inr ⟨u, v, rfl⟩⟩
theorem laidOut : laidOutB Tryz.prog = true := by kernel_rfl
end Go.Proofs.YtnndmokndgnidaaGreatDoor
namespace Go.Proofs.YtnndmokndgnidaaGreatDoor
open Go Go.Fen
set_option linter.unusedSimpArgs false
set_option linter.unusedVariables false
attribute [local irreducible] RunX WP ACall AnyP OpA ProtL
set_option maxRecDepth 8000
namespace RecordKnown
theorem contract (H : Type) (enc : TypeId × Value → H) (W : World) (base : Nat) (args : Array Value) (ds gs : List (DataW H)) (before : List MemPlace)
    (hval : ∀ (j : Nat) t v, Tryz.f5.params[j]? = some t → args[j]? = some v → Value.okWide Tryz.prog W .any base t v)
    (hW : DataW.Whole enc Tryz.prog Tryz.f5.params.toList Rows.recordKnownSpec.vars false W args.toList ds gs before) (hL : laidMetH Tryz.prog seatLaid W) :
    Calls Tryz.prog 5 args W fun e W' => ∃ v, e = .returned v ∧ Rows.recordKnownSpec.post enc Tryz.prog Tryz.f5 false true false false W args v W' := by
  refine law_close (n := 20) (tb := 4) [] laidOut ?_ (by rw [Tryz.params5]; kernel_rfl) (by kernel_rfl) un_4 rfl ?_ hW hval ?_
  · rw [Tryz.params5]
    have : ([].all fun t => Tryz.prog.readableRec t && decide (t < Tryz.prog.types.size)) = true := by kernel_rfl
    intro t ht
    simpa using List.all_eq_true.1 this t (by simpa using ht)
  · intro h
    rw [Tryz.params5] at h
    match ds, h with
    | [], _ => rfl
  · intro avs ha
    have e1 := ArgsH.nil' ha
    rw [e1]
    exact knownLaw W (tab_of hL) (syn_of hL) [] _ rfl
def wit : Array Value := #[]
set_option maxRecDepth 100000 in
theorem lifted (os : Os) (started : os.Started) (H : Type) (enc : TypeId × Value → H) :
    ReturnsInHanded {} Tryz.checked os 5 .any (fun w args => (Rows.recordKnownSpec.pre enc Tryz.prog Tryz.f5 Rows.recordKnownRow.domain false w args ∧ laidMetH Tryz.prog seatLaid w) ∧ sizedMet enc Tryz.prog Tryz.f5 (OpenSpec.ofChange Rows.recordKnownSpec) false w args)
      (Rows.recordKnownSpec.post enc Tryz.prog Tryz.f5 false true false false) := by
  refine returnsInHanded_of_change_and (C := Tryz.checked) (X := fun w _ => laidMetH Tryz.prog seatLaid w) (fun _ _ _ hh h => h.of_heap hh) own started (by kernel_rfl) Tryz.func5
    (ChangeSpec.witness_shaped (enc := enc) (C := Tryz.checked) (os := os) (X := fun w _ => laidMetH Tryz.prog seatLaid w) false (World.laidAll Tryz.prog os seatLaid) wit 8 (World.laidAll_os _ _ _)
      (World.shaped_of_ZipB (by kernel_rfl) (by kernel_rfl)) (by kernel_rfl) (by kernel_rfl) (by kernel_rfl)
      (by rw [MakeChecks.laidMetH_plain _ _ _ (by kernel_rfl)]; exact laidMet_laidAll _ (by kernel_rfl) (by kernel_rfl))) ?_
  intro W base args ds gs before hval hW _ _ hL _
  exact contract H enc W base args ds gs before hval hW hL
theorem said : Rows.RecordKnownSaid :=
  OpenClaim.holds_of_wide 5 Tryz.f5 rfl rfl rfl rfl rfl rfl rfl ⟨rfl, rfl, rfl, rfl, rfl⟩ rfl rfl rfl rfl rfl (by kernel_rfl) Tryz.func5 (by kernel_rfl)
    (of_decide_eq_true (by kernel_rfl)) (by unfold Func.isWrapper; first | (rw [if_pos (by decide +kernel)]; kernel_rfl) | (rw [if_neg (by decide +kernel)]; exact ⟨rfl, rfl⟩))
    (fun os started H enc _ => lifted os started H enc)
theorem plainF (f : FuncId) (fn : Func) (hf : Tryz.pinned.checked.prog.funcNamed "fenestra/fenestralaw42.RecordKnown" = some f) (hfn : Tryz.pinned.checked.prog.funcs[f]? = some fn) :
    true = Tryz.pinned.checked.prog.looks [] ∧ ∀ (j : Nat) t, fn.params[j]? = some t → Tryz.pinned.checked.prog.wantsStandIn t = false := by
  obtain rfl : f = 5 := Option.some.inj ((show Tryz.prog.funcNamed "fenestra/fenestralaw42.RecordKnown" = some 5 by kernel_rfl).symm.trans hf) |>.symm
  obtain rfl : fn = Tryz.f5 := (Option.some.inj (Tryz.func5.symm.trans hfn)).symm
  refine ⟨by kernel_rfl, fun j t ht => ?_⟩
  rw [Tryz.params5] at ht
  have hm : t ∈ [] := by simpa using Array.mem_of_getElem? ht
  have hall : ([].all fun u => !Tryz.prog.wantsStandIn u) = true := by kernel_rfl
  exact (show Tryz.prog.wantsStandIn t = false by simpa using List.all_eq_true.1 hall t hm)
theorem card : Rows.RecordKnownCardSaid :=
  Claim7.holds_tied_plain_at .later [] _ _ _ _ said (fun _ h => by cases h) (by kernel_rfl) (fun _ h => by cases h) recordKnown_row_tie rfl ⟨rfl, rfl⟩ (by kernel_rfl) rfl plainF (by kernel_rfl)
end RecordKnown
end Go.Proofs.YtnndmokndgnidaaGreatDoor
