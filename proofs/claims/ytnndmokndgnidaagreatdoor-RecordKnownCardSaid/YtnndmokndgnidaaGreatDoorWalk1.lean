/- YtnndmokndgnidaaGreatDoorWalk1. Texts of the proof of a law about recordings: a layer of abstract values above the worlds, the types, the walks of the functions that the law reaches, the law and its card. Own work of an AI agent. -/
import Derived.Test.YtnndmokndgnidaaGreatDoorWalk0
import Derived.Shelf.LaysM
import Derived.Shelf.Strconv.Itoa3
import Derived.Shelf.Abstract
import Derived.Lib.ItoaLen
import Derived.Lib.AppendIntMem
import Derived.Test.YtnndmokndgnidaaGreatDoorShelf
import Derived.Shelf.Strconv.Atoi
import Derived.Shelf.Strings.SlTrimAscii
import Derived.Lib.AtoiErrMem
set_option linter.all false
set_option linter.unusedVariables false
set_option linter.unusedSimpArgs false
namespace Go.Proofs.YtnndmokndgnidaaGreatDoor
open Go Go.Fen
set_option linter.unusedSimpArgs false
set_option linter.unusedVariables false
attribute [local irreducible] RunX WP ACall AnyP OpA ProtL
set_option maxRecDepth 8000
def bAV (b : UInt8) : AV := .int .u8 (b.toNat : Int)
theorem bytesOf_map (l : List UInt8) : bytesOf (l.map bAV) = some l := by
  induction l with
  | nil => rfl
  | cons x l ih => simp [bytesOf, bAV, ih]
theorem okBytes_map (l : List UInt8) : okBytes (l.map bAV) = true := by
  unfold okBytes
  rw [List.all_eq_true]
  intro x hx
  obtain ⟨b, _, rfl⟩ := List.mem_map.1 hx
  have := b.toNat_lt
  simp [bAV]; omega
theorem bytesOf_app {a b : List AV} {s t : List UInt8} (ha : bytesOf a = some s) (hb : bytesOf b = some t) : bytesOf (a ++ b) = some (s ++ t) := by
  induction a generalizing s with
  | nil => cases (show some [] = some s from ha); simpa using hb
  | cons x a ih =>
    cases x with
    | int k n =>
      cases k with
      | u8 =>
        have ha' : (bytesOf a).map (UInt8.ofNat n.toNat :: ·) = some s := ha
        show (bytesOf (a ++ b)).map (UInt8.ofNat n.toNat :: ·) = _
        cases h1 : bytesOf a with
        | none => rw [h1] at ha'; cases ha'
        | some s' => rw [h1] at ha'; cases ha'; rw [ih h1]; rfl
      | _ => cases (show none = some s from ha)
    | _ => cases (show none = some s from ha)
@[go_sem] theorem bAV_ok (l : List UInt8) : okEls 1 (l.map bAV) = true := by
  unfold okEls; rw [List.all_eq_true]; intro x hx; obtain ⟨y, _, rfl⟩ := List.mem_map.1 hx; rfl
@[go_sem] theorem bAV_plainL (l : List UInt8) : plainL (l.map bAV) = true := plainL_map (fun _ => rfl) l
@[go_sem] theorem bAV_ltL (l : List UInt8) (n : Nat) : ltL n (l.map bAV) = true := ltL_iff.2 fun x hx => by obtain ⟨y, _, rfl⟩ := List.mem_map.1 hx; rfl
def hexC (n : Nat) : UInt8 := if n < 10 then UInt8.ofNat (48 + n) else UInt8.ofNat (87 + n)
theorem hex_get : ∀ n, n < 16 → ([48, 49, 50, 51, 52, 53, 54, 55, 56, 57, 97, 98, 99, 100, 101, 102] : List UInt8)[n]? = some (hexC n) := by decide
def escB (c : UInt8) : List UInt8 :=
  if c.toNat = 34 ∨ c.toNat = 92 then [92, c] else if c.toNat = 10 then [92, 110] else if 32 ≤ c.toNat ∧ c.toNat ≤ 126 then [c] else [92, 120, hexC (c.toNat / 16), hexC (c.toNat % 16)]
def quoteS (s : List UInt8) : List UInt8 := 34 :: (s.flatMap escB ++ [34])
theorem escB_len (c : UInt8) : (escB c).length ≤ 4 := by unfold escB; split <;> (try split) <;> (try split) <;> simp
theorem flat_len (s : List UInt8) : (s.flatMap escB).length ≤ 4 * s.length := by
  induction s with
  | nil => simp
  | cons c s ih => rw [List.flatMap_cons, List.length_append, List.length_cons]; have := escB_len c; omega
theorem take_flat {s : List UInt8} {i : Nat} {c : UInt8} (h : s[i]? = some c) : (s.take (i + 1)).flatMap escB = (s.take i).flatMap escB ++ escB c := by
  rw [List.take_add_one, h]; simp
theorem take_flatS {s : List UInt8} {i : Nat} {c : UInt8} {bl : List UInt8} (h : s[i]? = some c) (hb : 34 :: (s.take i).flatMap escB = bl) : 34 :: (s.take (i + 1)).flatMap escB = bl ++ escB c := by
  rw [take_flat h, ← hb]; rfl
theorem shr4 (c : UInt8) : (c.toNat : Int).fdiv (2 ^ min 4 IntKind.u8.bits) = ((c.toNat / 16 : Nat) : Int) := by
  have : (2 : Int) ^ min 4 IntKind.u8.bits = 16 := by decide
  rw [this]
  rw [Int.fdiv_eq_ediv_of_nonneg _ (by omega)]; omega
theorem and15 (c : UInt8) : IntKind.u8.wrap (↑(BitVec.ofInt IntKind.u8.bits (c.toNat : Int) &&& BitVec.ofInt IntKind.u8.bits 15).toNat) = ((c.toNat % 16 : Nat) : Int) := by
  have hc : c.toNat < 256 := c.toNat_lt
  have h1 : (BitVec.ofInt IntKind.u8.bits (c.toNat : Int) &&& BitVec.ofInt IntKind.u8.bits 15).toNat = c.toNat % 16 := by
    rw [BitVec.toNat_and]
    have e1 : (BitVec.ofInt IntKind.u8.bits (c.toNat : Int)).toNat = c.toNat := by
      show (BitVec.ofInt 8 _).toNat = _
      rw [BitVec.toNat_ofInt]; omega
    have e2 : (BitVec.ofInt IntKind.u8.bits 15).toNat = 15 := by decide
    rw [e1, e2]
    exact Nat.and_two_pow_sub_one_eq_mod c.toNat 4
  rw [h1]
  exact IntWalk.u8_in _ (by omega)
set_option maxHeartbeats 4000000 in
theorem quote (w0 : World) (S : List Blk) (s : List UInt8) (hm : s.length ≤ 1000000000) (R : AOut → List Blk → Prop) (h : R (.ret (.str (quoteS s))) S) : ACall Tryz.prog w0 34 [.str s] S R := by
  refine enter Tryz.func34 rfl (by decide +kernel) (by rw [Tryz.ntmps34]; simp) (by rw [Tryz.ntmps34]; decide) (fun hO => ?_); rw [Tryz.ntmps34]
  repeat' first
    | apply x_seq | apply x_skip | apply x_block | apply x_exit | apply x_ret | apply x_ops_nil | apply p_blk | apply p_exit_it | apply p_exit_hit | apply p_ret_it | apply p_ret_blk | apply p_panic_it | apply p_panic_blk | apply p_end
    | (apply p_exit_miss; (focus rfl))
    | (apply x_region; simp only [List.toList_toArray])
    | (apply x_step0; (focus rfl); (focus (simp only [go_sem, *]; (try rfl); done)); (focus rfl); simp only [putA])
    | (apply x_panic; (focus (simp only [go_sem, *]; (try rfl); done)); (focus rfl); (focus (simp only [go_sem, *]; (try rfl); done)))
    | (apply x_step; (iterate 2 (focus (simp only [go_sem, *]; (try rfl); done))); (focus rfl); simp only [putA])
    | (apply x_unwanted; (focus (simp only [go_sem, *]; (try rfl); done)); (focus rfl); simp only [putA])
    | (apply x_condT; (focus (simp only [go_sem, *]; (try rfl); done)))
    | (apply x_condF; (focus (simp only [go_sem, *]; (try rfl); done)))
    | (apply x_guardS; (focus rfl); (fail_if_success (focus (show _ = some true; (focus (simp only [go_sem, *]; (try rfl); done))))); (focus (simp only [go_sem, *]; (try rfl); done)); all_goals (intro hb; try simp only [Bool.not_eq_true', Bool.not_eq_false'] at hb))
    | (apply x_condS; (focus (simp only [go_sem, *]; (try rfl); done)); all_goals (intro hb; try simp only [Bool.not_eq_true', Bool.not_eq_false'] at hb))
  refine x_ind (fun (i : Nat) env S' => i ≤ s.length ∧ env 1000000 = .dfr [] ∧ env 0 = .str s ∧ env 3 = .sown S.length i (34 :: (s.take i).flatMap escB).length ∧ env 8 = .int .i64 s.length ∧ env 9 = .int .i64 (i : Int) ∧
    S' = S ++ [.arr 5 1 0 i ((34 :: (s.take i).flatMap escB).map bAV)]) (fun i => s.length - i) 0 ?_ ?_
  · exact ⟨Nat.zero_le _, by (simp only [go_sem, *]; try rfl), by (simp only [go_sem, *]; try rfl), by (simp only [go_sem, *]; try rfl), by (simp only [go_sem, *]; try rfl), by (simp only [go_sem, *]; try rfl), rfl⟩
  · rintro i env S' ⟨hi, e0, f0, f3, f8, f9, rfl⟩ IH
    have HI := Lib.hid IH
    clear IH
    have hfl := flat_len (s.take i)
    have hfl2 : (s.take i).length ≤ i := List.length_take_le _ _
    obtain ⟨bl, hbl⟩ : ∃ bl, 34 :: (s.take i).flatMap escB = bl := ⟨_, rfl⟩
    have hbn : bl.length ≤ 4 * i + 1 := by rw [← hbl, List.length_cons]; omega
    rw [hbl] at f3 ⊢
    have hlen : (bl.map bAV).length = bl.length := by simp
    have Hbl := Lib.hid hbl
    have Hbn := Lib.hid hbn
    clear hfl hfl2 hbl
    by_cases hlt : i < s.length
    · obtain ⟨c, hx⟩ : ∃ c, s[i]? = some c := ⟨_, List.getElem?_eq_getElem hlt⟩
      have h1 : decide ((i : Int) < (s.length : Int)) = true := by simpa using hlt
      have hw1 : IntKind.i64.wrap ((i : Int) + 1) = (i : Int) + 1 := IntWalk.i64_in _ (by omega)
      have hct : c.toNat < 256 := c.toNat_lt
      have hwc : IntKind.i64.wrap (c.toNat : Int) = (c.toNat : Int) := IntWalk.i64_in _ (by omega)
      have hb1 : (bl.length + 1) * 1 ≤ 140737488355328 := by omega
      have hb2 : (bl.length + 2) * 1 ≤ 140737488355328 := by omega
      have hb4 : (bl.length + 4) * 1 ≤ 140737488355328 := by omega
      have Htk := Lib.hid (take_flatS hx Hbl.out)
      have Hil := Lib.hid (List.getElem?_eq_some_iff.1 hx).1
      have Hct := Lib.hid hct
      clear hlt hi hm hct hbn
      by_cases q1 : c.toNat = 34
      · have d1 : ((c.toNat : Int) == 34) = true := by simp; omega
        have Hesc := Lib.hid (show escB c = [92, c] by unfold escB; rw [if_pos (.inl q1)])
        clear q1
        repeat' first
          | apply x_seq | apply x_skip | apply x_block | apply x_exit | apply x_ret | apply x_ops_nil | apply p_blk | apply p_exit_it | apply p_exit_hit | apply p_ret_it | apply p_ret_blk | apply p_panic_it | apply p_panic_blk | apply p_end
          | (apply p_exit_miss; (focus rfl))
          | (apply x_region; simp only [List.toList_toArray])
          | (apply x_step0; (focus rfl); (focus (simp only [go_sem, *]; (try rfl); done)); (focus rfl); simp only [putA])
          | (apply x_panic; (focus (simp only [go_sem, *]; (try rfl); done)); (focus rfl); (focus (simp only [go_sem, *]; (try rfl); done)))
          | (apply x_step; (iterate 2 (focus (simp only [go_sem, *]; (try rfl); done))); (focus rfl); simp only [putA])
          | (apply x_unwanted; (focus (simp only [go_sem, *]; (try rfl); done)); (focus rfl); simp only [putA])
          | (apply x_condT; (focus (simp only [go_sem, *]; (try rfl); done)))
          | (apply x_condF; (focus (simp only [go_sem, *]; (try rfl); done)))
          | (apply x_guardS; (focus rfl); (fail_if_success (focus (show _ = some true; (focus (simp only [go_sem, *]; (try rfl); done))))); (focus (simp only [go_sem, *]; (try rfl); done)); all_goals (intro hb; try simp only [Bool.not_eq_true', Bool.not_eq_false'] at hb))
          | (apply x_condS; (focus (simp only [go_sem, *]; (try rfl); done)); all_goals (intro hb; try simp only [Bool.not_eq_true', Bool.not_eq_false'] at hb))
        all_goals
          refine x_keep hO 1 [0, 3, 8, 9] rfl (by (simp only [go_sem, *]; try rfl)) (by (simp only [go_sem, *]; try rfl)) (by (simp only [go_sem, *]; try rfl)) ?_
          simp only [List.take_succ_cons, List.take_zero]
          refine HI.out (i + 1) _ _ (by have := Hil.out; omega) ⟨Hil.out, ?_, ?_, ?_, ?_, ?_, ?_⟩
          · (simp only [go_sem, *]; try rfl)
          · (simp only [go_sem, *]; try rfl)
          · rw [Htk.out, Hesc.out, List.length_append]; (simp only [go_sem, *]; try rfl)
          · (simp only [go_sem, *]; try rfl)
          · (simp only [go_sem, *]; try rfl)
          · rw [Htk.out, Hesc.out, List.map_append]; rfl
      have d1 : ((c.toNat : Int) == 34) = false := by simp; omega
      by_cases q2 : c.toNat = 92
      · have d2 : ((c.toNat : Int) == 92) = true := by simp; omega
        have Hesc := Lib.hid (show escB c = [92, c] by unfold escB; rw [if_pos (.inr q2)])
        clear q1 q2
        repeat' first
          | apply x_seq | apply x_skip | apply x_block | apply x_exit | apply x_ret | apply x_ops_nil | apply p_blk | apply p_exit_it | apply p_exit_hit | apply p_ret_it | apply p_ret_blk | apply p_panic_it | apply p_panic_blk | apply p_end
          | (apply p_exit_miss; (focus rfl))
          | (apply x_region; simp only [List.toList_toArray])
          | (apply x_step0; (focus rfl); (focus (simp only [go_sem, *]; (try rfl); done)); (focus rfl); simp only [putA])
          | (apply x_panic; (focus (simp only [go_sem, *]; (try rfl); done)); (focus rfl); (focus (simp only [go_sem, *]; (try rfl); done)))
          | (apply x_step; (iterate 2 (focus (simp only [go_sem, *]; (try rfl); done))); (focus rfl); simp only [putA])
          | (apply x_unwanted; (focus (simp only [go_sem, *]; (try rfl); done)); (focus rfl); simp only [putA])
          | (apply x_condT; (focus (simp only [go_sem, *]; (try rfl); done)))
          | (apply x_condF; (focus (simp only [go_sem, *]; (try rfl); done)))
          | (apply x_guardS; (focus rfl); (fail_if_success (focus (show _ = some true; (focus (simp only [go_sem, *]; (try rfl); done))))); (focus (simp only [go_sem, *]; (try rfl); done)); all_goals (intro hb; try simp only [Bool.not_eq_true', Bool.not_eq_false'] at hb))
          | (apply x_condS; (focus (simp only [go_sem, *]; (try rfl); done)); all_goals (intro hb; try simp only [Bool.not_eq_true', Bool.not_eq_false'] at hb))
        all_goals
          refine x_keep hO 1 [0, 3, 8, 9] rfl (by (simp only [go_sem, *]; try rfl)) (by (simp only [go_sem, *]; try rfl)) (by (simp only [go_sem, *]; try rfl)) ?_
          simp only [List.take_succ_cons, List.take_zero]
          refine HI.out (i + 1) _ _ (by have := Hil.out; omega) ⟨Hil.out, ?_, ?_, ?_, ?_, ?_, ?_⟩
          · (simp only [go_sem, *]; try rfl)
          · (simp only [go_sem, *]; try rfl)
          · rw [Htk.out, Hesc.out, List.length_append]; (simp only [go_sem, *]; try rfl)
          · (simp only [go_sem, *]; try rfl)
          · (simp only [go_sem, *]; try rfl)
          · rw [Htk.out, Hesc.out, List.map_append]; rfl
      have d2 : ((c.toNat : Int) == 92) = false := by simp; omega
      by_cases q3 : c.toNat = 10
      · have d3 : ((c.toNat : Int) == 10) = true := by simp; omega
        have Hesc := Lib.hid (show escB c = [92, 110] by unfold escB; rw [if_neg (by omega), if_pos q3])
        clear q1 q2 q3
        repeat' first
          | apply x_seq | apply x_skip | apply x_block | apply x_exit | apply x_ret | apply x_ops_nil | apply p_blk | apply p_exit_it | apply p_exit_hit | apply p_ret_it | apply p_ret_blk | apply p_panic_it | apply p_panic_blk | apply p_end
          | (apply p_exit_miss; (focus rfl))
          | (apply x_region; simp only [List.toList_toArray])
          | (apply x_step0; (focus rfl); (focus (simp only [go_sem, *]; (try rfl); done)); (focus rfl); simp only [putA])
          | (apply x_panic; (focus (simp only [go_sem, *]; (try rfl); done)); (focus rfl); (focus (simp only [go_sem, *]; (try rfl); done)))
          | (apply x_step; (iterate 2 (focus (simp only [go_sem, *]; (try rfl); done))); (focus rfl); simp only [putA])
          | (apply x_unwanted; (focus (simp only [go_sem, *]; (try rfl); done)); (focus rfl); simp only [putA])
          | (apply x_condT; (focus (simp only [go_sem, *]; (try rfl); done)))
          | (apply x_condF; (focus (simp only [go_sem, *]; (try rfl); done)))
          | (apply x_guardS; (focus rfl); (fail_if_success (focus (show _ = some true; (focus (simp only [go_sem, *]; (try rfl); done))))); (focus (simp only [go_sem, *]; (try rfl); done)); all_goals (intro hb; try simp only [Bool.not_eq_true', Bool.not_eq_false'] at hb))
          | (apply x_condS; (focus (simp only [go_sem, *]; (try rfl); done)); all_goals (intro hb; try simp only [Bool.not_eq_true', Bool.not_eq_false'] at hb))
        all_goals
          refine x_keep hO 1 [0, 3, 8, 9] rfl (by (simp only [go_sem, *]; try rfl)) (by (simp only [go_sem, *]; try rfl)) (by (simp only [go_sem, *]; try rfl)) ?_
          simp only [List.take_succ_cons, List.take_zero]
          refine HI.out (i + 1) _ _ (by have := Hil.out; omega) ⟨Hil.out, ?_, ?_, ?_, ?_, ?_, ?_⟩
          · (simp only [go_sem, *]; try rfl)
          · (simp only [go_sem, *]; try rfl)
          · rw [Htk.out, Hesc.out, List.length_append]; (simp only [go_sem, *]; try rfl)
          · (simp only [go_sem, *]; try rfl)
          · (simp only [go_sem, *]; try rfl)
          · rw [Htk.out, Hesc.out, List.map_append]; rfl
      have d3 : ((c.toNat : Int) == 10) = false := by simp; omega
      by_cases q4 : 32 ≤ c.toNat ∧ c.toNat ≤ 126
      · have d4 : decide ((32 : Int) ≤ (c.toNat : Int)) = true := by simp; omega
        have d5 : decide ((c.toNat : Int) ≤ 126) = true := by simp; omega
        have Hesc := Lib.hid (show escB c = [c] by unfold escB; rw [if_neg (by omega), if_neg q3, if_pos q4])
        clear q1 q2 q3 q4
        repeat' first
          | apply x_seq | apply x_skip | apply x_block | apply x_exit | apply x_ret | apply x_ops_nil | apply p_blk | apply p_exit_it | apply p_exit_hit | apply p_ret_it | apply p_ret_blk | apply p_panic_it | apply p_panic_blk | apply p_end
          | (apply p_exit_miss; (focus rfl))
          | (apply x_region; simp only [List.toList_toArray])
          | (apply x_step0; (focus rfl); (focus (simp only [go_sem, *]; (try rfl); done)); (focus rfl); simp only [putA])
          | (apply x_callA []; (focus (simp only [go_sem, *]; (try rfl); done)); (focus rfl); (focus (simp only [go_sem, *]; (try rfl); done)); (focus rfl); (iterate 2 (focus (simp only [go_sem, *]; (try rfl); done))); (first | (apply within)); simp only [afterCall, putA])
          | (apply x_panic; (focus (simp only [go_sem, *]; (try rfl); done)); (focus rfl); (focus (simp only [go_sem, *]; (try rfl); done)))
          | (apply x_step; (iterate 2 (focus (simp only [go_sem, *]; (try rfl); done))); (focus rfl); simp only [putA])
          | (apply x_unwanted; (focus (simp only [go_sem, *]; (try rfl); done)); (focus rfl); simp only [putA])
          | (apply x_condT; (focus (simp only [go_sem, *]; (try rfl); done)))
          | (apply x_condF; (focus (simp only [go_sem, *]; (try rfl); done)))
          | (apply x_guardS; (focus rfl); (fail_if_success (focus (show _ = some true; (focus (simp only [go_sem, *]; (try rfl); done))))); (focus (simp only [go_sem, *]; (try rfl); done)); all_goals (intro hb; try simp only [Bool.not_eq_true', Bool.not_eq_false'] at hb))
          | (apply x_condS; (focus (simp only [go_sem, *]; (try rfl); done)); all_goals (intro hb; try simp only [Bool.not_eq_true', Bool.not_eq_false'] at hb))
        all_goals
          refine x_keep hO 1 [0, 3, 8, 9] rfl (by (simp only [go_sem, *]; try rfl)) (by (simp only [go_sem, *]; try rfl)) (by (simp only [go_sem, *]; try rfl)) ?_
          simp only [List.take_succ_cons, List.take_zero]
          refine HI.out (i + 1) _ _ (by have := Hil.out; omega) ⟨Hil.out, ?_, ?_, ?_, ?_, ?_, ?_⟩
          · (simp only [go_sem, *]; try rfl)
          · (simp only [go_sem, *]; try rfl)
          · rw [Htk.out, Hesc.out, List.length_append]; (simp only [go_sem, *]; try rfl)
          · (simp only [go_sem, *]; try rfl)
          · (simp only [go_sem, *]; try rfl)
          · rw [Htk.out, Hesc.out, List.map_append]; rfl
      have d4 : (decide ((32 : Int) ≤ (c.toNat : Int)) && decide ((c.toNat : Int) ≤ 126)) = false := by simp; omega
      have Hesc := Lib.hid (show escB c = [92, 120, hexC (c.toNat / 16), hexC (c.toNat % 16)] by unfold escB; rw [if_neg (by omega), if_neg q3, if_neg q4])
      have g1 := hex_get _ (show c.toNat / 16 < 16 by have := Hct.out; omega)
      have g2 := hex_get _ (show c.toNat % 16 < 16 by omega)
      have g3 : (c.toNat : Int).fdiv (2 ^ min 4 8) = ((c.toNat / 16 : Nat) : Int) := shr4 c
      have g4 := and15 c
      simp only [IntKind.bits] at g4
      clear q1 q2 q3 q4
      · repeat' first
          | apply x_seq | apply x_skip | apply x_block | apply x_exit | apply x_ret | apply x_ops_nil | apply p_blk | apply p_exit_it | apply p_exit_hit | apply p_ret_it | apply p_ret_blk | apply p_panic_it | apply p_panic_blk | apply p_end
          | (apply p_exit_miss; (focus rfl))
          | (apply x_region; simp only [List.toList_toArray])
          | (apply x_step0; (focus rfl); (focus (simp only [go_sem, *]; (try rfl); done)); (focus rfl); simp only [putA])
          | (apply x_callA []; (focus (simp only [go_sem, *]; (try rfl); done)); (focus rfl); (focus (simp only [go_sem, *]; (try rfl); done)); (focus rfl); (iterate 2 (focus (simp only [go_sem, *]; (try rfl); done))); (first | (apply within)); simp only [afterCall, putA])
          | (apply x_panic; (focus (simp only [go_sem, *]; (try rfl); done)); (focus rfl); (focus (simp only [go_sem, *]; (try rfl); done)))
          | (apply x_step; (iterate 2 (focus (simp only [go_sem, *]; (try rfl); done))); (focus rfl); simp only [putA])
          | (apply x_unwanted; (focus (simp only [go_sem, *]; (try rfl); done)); (focus rfl); simp only [putA])
          | (apply x_condT; (focus (simp only [go_sem, *]; (try rfl); done)))
          | (apply x_condF; (focus (simp only [go_sem, *]; (try rfl); done)))
          | (apply x_guardS; (focus rfl); (fail_if_success (focus (show _ = some true; (focus (simp only [go_sem, *]; (try rfl); done))))); (focus (simp only [go_sem, *]; (try rfl); done)); all_goals (intro hb; try simp only [Bool.not_eq_true', Bool.not_eq_false'] at hb))
          | (apply x_condS; (focus (simp only [go_sem, *]; (try rfl); done)); all_goals (intro hb; try simp only [Bool.not_eq_true', Bool.not_eq_false'] at hb))
          | (apply d_draw; (focus exact mixed); (focus ((simp only [List.size_toArray, List.length_cons, List.length_nil, Nat.reduceAdd]; try rfl); done)))
          | (apply d_done; (focus decide +kernel))
          | ((first | (apply d_take 0; (focus decide +kernel)) | (apply d_take 1; (focus decide +kernel)) | (apply d_take 2; (focus decide +kernel)) | (apply d_take 3; (focus decide +kernel)) | (apply d_take 4; (focus decide +kernel)) | (apply d_take 5; (focus decide +kernel)) | (apply d_take 6; (focus decide +kernel)) | (apply d_take 7; (focus decide +kernel)) | (apply d_take 8; (focus decide +kernel)) | (apply d_take 9; (focus decide +kernel)) | (apply d_take 10; (focus decide +kernel)) | (apply d_take 11; (focus decide +kernel)) | (apply d_take 12; (focus decide +kernel)) | (apply d_take 13; (focus decide +kernel)) | (apply d_take 14; (focus decide +kernel)) | (apply d_take 15; (focus decide +kernel)) | (apply d_take 16; (focus decide +kernel)) | (apply d_take 17; (focus decide +kernel))); (focus (first | exact qds_FPost | exact qds_RPost | exact qds_YB | assumption)); (focus rfl); (iterate 3 (focus (simp only [go_sem, *]; (try rfl); done))); (focus rfl); (focus (simp only [go_sem, *]; (try rfl); done)); simp only [putA])
          | ((first | (apply d_unw 0; (focus decide +kernel)) | (apply d_unw 1; (focus decide +kernel)) | (apply d_unw 2; (focus decide +kernel)) | (apply d_unw 3; (focus decide +kernel)) | (apply d_unw 4; (focus decide +kernel)) | (apply d_unw 5; (focus decide +kernel)) | (apply d_unw 6; (focus decide +kernel)) | (apply d_unw 7; (focus decide +kernel)) | (apply d_unw 8; (focus decide +kernel)) | (apply d_unw 9; (focus decide +kernel)) | (apply d_unw 10; (focus decide +kernel)) | (apply d_unw 11; (focus decide +kernel)) | (apply d_unw 12; (focus decide +kernel)) | (apply d_unw 13; (focus decide +kernel)) | (apply d_unw 14; (focus decide +kernel)) | (apply d_unw 15; (focus decide +kernel)) | (apply d_unw 16; (focus decide +kernel)) | (apply d_unw 17; (focus decide +kernel))); (focus (first | exact qds_FPost | exact qds_RPost | exact qds_YB | assumption)); (focus rfl); (iterate 2 (focus (simp only [go_sem, *]; (try rfl); done))); (focus rfl); simp only [putA])
          | (first | (apply d_one 0; (focus decide +kernel)) | (apply d_one 1; (focus decide +kernel)) | (apply d_one 2; (focus decide +kernel)) | (apply d_one 3; (focus decide +kernel)) | (apply d_one 4; (focus decide +kernel)) | (apply d_one 5; (focus decide +kernel)) | (apply d_one 6; (focus decide +kernel)) | (apply d_one 7; (focus decide +kernel)) | (apply d_one 8; (focus decide +kernel)) | (apply d_one 9; (focus decide +kernel)) | (apply d_one 10; (focus decide +kernel)) | (apply d_one 11; (focus decide +kernel)) | (apply d_one 12; (focus decide +kernel)) | (apply d_one 13; (focus decide +kernel)) | (apply d_one 14; (focus decide +kernel)) | (apply d_one 15; (focus decide +kernel)) | (apply d_one 16; (focus decide +kernel)) | (apply d_one 17; (focus decide +kernel)))
          | (apply o_step; (iterate 3 (focus (simp only [go_sem, *]; (try rfl); done))); (focus rfl); simp only [putA])
          | (apply o_unw; (iterate 2 (focus (simp only [go_sem, *]; (try rfl); done))); (focus rfl); simp only [putA])
          | apply pr_nil | apply pr_same | apply pr_go | apply pl_nil | apply pl_none | (apply pl_skip; (focus decide +kernel)) | (apply pl_one; (focus (simp only [go_sem, *]; (try rfl); done)))
          | (apply o_call []; (iterate 2 (focus (simp only [go_sem, *]; (try rfl); done))); (focus rfl); (focus (simp only [go_sem, *]; (try rfl); done)); (focus rfl); (iterate 2 (focus (simp only [go_sem, *]; (try rfl); done))); (first | (apply within)); simp only [afterOp, putA])
        all_goals
          refine x_keep hO 1 [0, 3, 8, 9] rfl (by (simp only [go_sem, *]; try rfl)) (by (simp only [go_sem, *]; try rfl)) (by (simp only [go_sem, *]; try rfl)) ?_
          simp only [List.take_succ_cons, List.take_zero]
          refine HI.out (i + 1) _ _ (by have := Hil.out; omega) ⟨Hil.out, ?_, ?_, ?_, ?_, ?_, ?_⟩
          · (simp only [go_sem, *]; try rfl)
          · (simp only [go_sem, *]; try rfl)
          · rw [Htk.out, Hesc.out, List.length_append]; (simp only [go_sem, *]; try rfl)
          · (simp only [go_sem, *]; try rfl)
          · (simp only [go_sem, *]; try rfl)
          · rw [Htk.out, Hesc.out, List.map_append]; rfl
    · have hin : i = s.length := by omega
      subst hin
      rw [List.take_length] at Hbl
      have h1 : decide ((s.length : Int) < (s.length : Int)) = false := by simp
      have hb1 : (bl.length + 1) * 1 ≤ 140737488355328 := by omega
      have hl1 : (List.map bAV bl ++ [AV.int .u8 34]).length = bl.length + 1 := by simp
      have hby : bytesOf (List.map bAV bl ++ [AV.int .u8 34]) = some (quoteS s) := by
        rw [bytesOf_app (bytesOf_map bl) (t := [34]) rfl, ← Hbl.out]; rfl
      clear hlt hi hm hbn
      repeat' first
        | apply x_seq | apply x_skip | apply x_block | apply x_exit | apply x_ret | apply x_ops_nil | apply p_blk | apply p_exit_it | apply p_exit_hit | apply p_ret_it | apply p_ret_blk | apply p_panic_it | apply p_panic_blk | apply p_end
        | (apply p_exit_miss; (focus rfl))
        | (apply x_region; simp only [List.toList_toArray])
        | (apply x_step0; (focus rfl); (focus (simp only [go_sem, *]; (try rfl); done)); (focus rfl); simp only [putA])
        | (apply x_panic; (focus (simp only [go_sem, *]; (try rfl); done)); (focus rfl); (focus (simp only [go_sem, *]; (try rfl); done)))
        | (apply x_step; (iterate 2 (focus (simp only [go_sem, *]; (try rfl); done))); (focus rfl); simp only [putA])
        | (apply x_unwanted; (focus (simp only [go_sem, *]; (try rfl); done)); (focus rfl); simp only [putA])
        | (apply x_condT; (focus (simp only [go_sem, *]; (try rfl); done)))
        | (apply x_condF; (focus (simp only [go_sem, *]; (try rfl); done)))
        | (apply x_guardS; (focus rfl); (fail_if_success (focus (show _ = some true; (focus (simp only [go_sem, *]; (try rfl); done))))); (focus (simp only [go_sem, *]; (try rfl); done)); all_goals (intro hb; try simp only [Bool.not_eq_true', Bool.not_eq_false'] at hb))
        | (apply x_condS; (focus (simp only [go_sem, *]; (try rfl); done)); all_goals (intro hb; try simp only [Bool.not_eq_true', Bool.not_eq_false'] at hb))
      (apply f_ret; iterate 7 (focus (simp only [go_sem, *, Tryz.results34]; (try rfl); done)))
      exact h
end Go.Proofs.YtnndmokndgnidaaGreatDoor
namespace Go.Proofs.YtnndmokndgnidaaGreatDoor
open Go Go.Fen
set_option linter.unusedSimpArgs false
set_option linter.unusedVariables false
attribute [local irreducible] RunX WP ACall AnyP OpA ProtL
set_option maxRecDepth 8000
def Tab (w0 : World) : Prop := Lib.TabIs Tryz.prog w0 "internal/strconv.uint64pow10" .u64 Lib.pow10Tab
theorem itoa (w0 : World) (hT : Tab w0) (S : List Blk) (n : Int) (h1 : -9223372036854775808 ≤ n) (h2 : n ≤ 9223372036854775807) (R : AOut → List Blk → Prop) (h : R (.ret (.str (Lib.itoa n))) S) : ACall Tryz.prog w0 31 [.int .i64 n] S R := by
  refine ACall.lib (vs := [.int .i64 n]) (v := .str (Lib.itoa n)) (Go.Proofs.enters_of Tryz.func31 (by kernel_rfl) rfl) rfl rfl ?_ h
  intro w hb
  refine (Go.Proofs.Any.strconv_Itoa Go.Proofs.Tryz.laysM171 n h1 h2 w (Lib.tabBelow_of_tabIs hT w hb)).mono ?_
  rintro e w' ⟨rfl, k, os, rfl⟩
  exact ⟨rfl, Lib.below_grow _ w (Nat.le_refl _) k os⟩
def twoS (a b : Int) : List UInt8 := Lib.itoa a ++ [32] ++ Lib.itoa b
set_option maxHeartbeats 400000 in
theorem two (w0 : World) (hT : Tab w0) (S : List Blk) (a b : Int) (h1 : -9223372036854775808 ≤ a) (h2 : a ≤ 9223372036854775807) (h3 : -9223372036854775808 ≤ b) (h4 : b ≤ 9223372036854775807) (R : AOut → List Blk → Prop) (h : R (.ret (.str (twoS a b))) S) :
    ACall Tryz.prog w0 30 [.int .i64 a, .int .i64 b] S R := by
  have ia := fun S' => itoa w0 hT S' a h1 h2
  have ib := fun S' => itoa w0 hT S' b h3 h4
  have la := Lib.itoa_length_le a h1 h2
  have lb := Lib.itoa_length_le b h3 h4
  have k1 : (Lib.itoa a).length ≤ 9223372036854775806 := by omega
  have k2 : (Lib.itoa a ++ [32]).length + (Lib.itoa b).length ≤ 9223372036854775807 := by simp; omega
  clear hT h1 h2 h3 h4 la lb
  refine enter Tryz.func30 rfl (by decide +kernel) (by rw [Tryz.ntmps30]; simp) (by rw [Tryz.ntmps30]; decide) (fun hO => ?_); rw [Tryz.ntmps30]
  repeat' first
    | apply x_seq | apply x_skip | apply x_block | apply x_exit | apply x_ret | apply x_ops_nil | apply p_blk | apply p_exit_it | apply p_exit_hit | apply p_ret_it | apply p_ret_blk | apply p_panic_it | apply p_panic_blk | apply p_end
    | (apply p_exit_miss; (focus rfl))
    | (apply x_region; simp only [List.toList_toArray])
    | (apply x_step0; (focus rfl); (focus (simp only [go_sem, *]; (try rfl); done)); (focus rfl); simp only [putA])
    | (apply x_callA []; (focus (simp only [go_sem, *]; (try rfl); done)); (focus rfl); (focus (simp only [go_sem, *]; (try rfl); done)); (focus rfl); (iterate 2 (focus (simp only [go_sem, *]; (try rfl); done))); (first | (apply ia) | (apply ib)); simp only [afterCall, putA])
    | (apply x_panic; (focus (simp only [go_sem, *]; (try rfl); done)); (focus rfl); (focus (simp only [go_sem, *]; (try rfl); done)))
    | (apply x_step; (iterate 2 (focus (simp only [go_sem, *]; (try rfl); done))); (focus rfl); simp only [putA])
    | (apply x_unwanted; (focus (simp only [go_sem, *]; (try rfl); done)); (focus rfl); simp only [putA])
    | (apply x_condT; (focus (simp only [go_sem, *]; (try rfl); done)))
    | (apply x_condF; (focus (simp only [go_sem, *]; (try rfl); done)))
    | (apply x_guardS; (focus rfl); (fail_if_success (focus (show _ = some true; (focus (simp only [go_sem, *]; (try rfl); done))))); (focus (simp only [go_sem, *]; (try rfl); done)); all_goals (intro hb; try simp only [Bool.not_eq_true', Bool.not_eq_false'] at hb))
    | (apply x_condS; (focus (simp only [go_sem, *]; (try rfl); done)); all_goals (intro hb; try simp only [Bool.not_eq_true', Bool.not_eq_false'] at hb))
  (apply f_end; iterate 7 (focus (simp only [go_sem, *, Tryz.results30]; (try rfl); done)))
  exact h
set_option maxHeartbeats 400000 in
theorem copyCheck0 (w0 : World) (S : List Blk) (a : Nat) (v : AV) (ha : S[a]? = some (.cells [.nilp, v] (some 71))) (hv : v.lt S.length = true) (hal : a < S.length) (R : AOut → List Blk → Prop) (h : R (.ret (.tup [])) (S.set a (.cells [.own a 0, v] (some 71)))) :
    ACall Tryz.prog w0 60 [.own a 0] S R := by
  refine enter Tryz.func60 rfl (by decide +kernel) (by rw [Tryz.ntmps60]; simp) (by rw [Tryz.ntmps60]; decide) (fun hO => ?_); rw [Tryz.ntmps60]
  repeat' first
    | apply x_seq | apply x_skip | apply x_block | apply x_exit | apply x_ret | apply x_ops_nil | apply p_blk | apply p_exit_it | apply p_exit_hit | apply p_ret_it | apply p_ret_blk | apply p_panic_it | apply p_panic_blk | apply p_end
    | (apply p_exit_miss; (focus rfl))
    | (apply x_region; simp only [List.toList_toArray])
    | (apply x_step0; (focus rfl); (focus (simp only [go_sem, *]; (try rfl); done)); (focus rfl); simp only [putA])
    | (apply x_panic; (focus (simp only [go_sem, *]; (try rfl); done)); (focus rfl); (focus (simp only [go_sem, *]; (try rfl); done)))
    | (apply x_step; (iterate 2 (focus (simp only [go_sem, *]; (try rfl); done))); (focus rfl); simp only [putA])
    | (apply x_unwanted; (focus (simp only [go_sem, *]; (try rfl); done)); (focus rfl); simp only [putA])
    | (apply x_condT; (focus (simp only [go_sem, *]; (try rfl); done)))
    | (apply x_condF; (focus (simp only [go_sem, *]; (try rfl); done)))
    | (apply x_guardS; (focus rfl); (fail_if_success (focus (show _ = some true; (focus (simp only [go_sem, *]; (try rfl); done))))); (focus (simp only [go_sem, *]; (try rfl); done)); all_goals (intro hb; try simp only [Bool.not_eq_true', Bool.not_eq_false'] at hb))
    | (apply x_condS; (focus (simp only [go_sem, *]; (try rfl); done)); all_goals (intro hb; try simp only [Bool.not_eq_true', Bool.not_eq_false'] at hb))
  refine x_ident (f := 74) (by (simp only [go_sem, *]; try rfl)) rfl rfl (fun c w => ?_) rfl (by (simp only [go_sem, *]; try rfl)) ?_
  · rw [run_callFunc_extern Tryz.func74 (by kernel_rfl) (by kernel_rfl) (by kernel_rfl) (by kernel_rfl), Lib.run_noEscape]; rfl
  simp only [putA]
  repeat' first
    | apply x_seq | apply x_skip | apply x_block | apply x_exit | apply x_ret | apply x_ops_nil | apply p_blk | apply p_exit_it | apply p_exit_hit | apply p_ret_it | apply p_ret_blk | apply p_panic_it | apply p_panic_blk | apply p_end
    | (apply p_exit_miss; (focus rfl))
    | (apply x_region; simp only [List.toList_toArray])
    | (apply x_step0; (focus rfl); (focus (simp only [go_sem, *]; (try rfl); done)); (focus rfl); simp only [putA])
    | (apply x_panic; (focus (simp only [go_sem, *]; (try rfl); done)); (focus rfl); (focus (simp only [go_sem, *]; (try rfl); done)))
    | (apply x_step; (iterate 2 (focus (simp only [go_sem, *]; (try rfl); done))); (focus rfl); simp only [putA])
    | (apply x_unwanted; (focus (simp only [go_sem, *]; (try rfl); done)); (focus rfl); simp only [putA])
    | (apply x_condT; (focus (simp only [go_sem, *]; (try rfl); done)))
    | (apply x_condF; (focus (simp only [go_sem, *]; (try rfl); done)))
    | (apply x_guardS; (focus rfl); (fail_if_success (focus (show _ = some true; (focus (simp only [go_sem, *]; (try rfl); done))))); (focus (simp only [go_sem, *]; (try rfl); done)); all_goals (intro hb; try simp only [Bool.not_eq_true', Bool.not_eq_false'] at hb))
    | (apply x_condS; (focus (simp only [go_sem, *]; (try rfl); done)); all_goals (intro hb; try simp only [Bool.not_eq_true', Bool.not_eq_false'] at hb))
  (apply f_endX; iterate 5 (focus (simp only [go_sem, *, Tryz.results60]; (try rfl); done)))
  · exact OuterOk.set hO (by simp [Blk.ltB, ltL, AV.lt, hv, hal])
  · simp
  · exact h
theorem copyCheck1 (w0 : World) (S : List Blk) (a : Nat) (v : AV) (ha : S[a]? = some (.cells [.own a 0, v] (some 71))) (R : AOut → List Blk → Prop) (h : R (.ret (.tup [])) S) :
    ACall Tryz.prog w0 60 [.own a 0] S R := by
  refine enter Tryz.func60 rfl (by decide +kernel) (by rw [Tryz.ntmps60]; simp) (by rw [Tryz.ntmps60]; decide) (fun hO => ?_); rw [Tryz.ntmps60]
  repeat' first
    | apply x_seq | apply x_skip | apply x_block | apply x_exit | apply x_ret | apply x_ops_nil | apply p_blk | apply p_exit_it | apply p_exit_hit | apply p_ret_it | apply p_ret_blk | apply p_panic_it | apply p_panic_blk | apply p_end
    | (apply p_exit_miss; (focus rfl))
    | (apply x_region; simp only [List.toList_toArray])
    | (apply x_step0; (focus rfl); (focus (simp only [go_sem, *]; (try rfl); done)); (focus rfl); simp only [putA])
    | (apply x_panic; (focus (simp only [go_sem, *]; (try rfl); done)); (focus rfl); (focus (simp only [go_sem, *]; (try rfl); done)))
    | (apply x_step; (iterate 2 (focus (simp only [go_sem, *]; (try rfl); done))); (focus rfl); simp only [putA])
    | (apply x_unwanted; (focus (simp only [go_sem, *]; (try rfl); done)); (focus rfl); simp only [putA])
    | (apply x_condT; (focus (simp only [go_sem, *]; (try rfl); done)))
    | (apply x_condF; (focus (simp only [go_sem, *]; (try rfl); done)))
    | (apply x_guardS; (focus rfl); (fail_if_success (focus (show _ = some true; (focus (simp only [go_sem, *]; (try rfl); done))))); (focus (simp only [go_sem, *]; (try rfl); done)); all_goals (intro hb; try simp only [Bool.not_eq_true', Bool.not_eq_false'] at hb))
    | (apply x_condS; (focus (simp only [go_sem, *]; (try rfl); done)); all_goals (intro hb; try simp only [Bool.not_eq_true', Bool.not_eq_false'] at hb))
  (apply f_end; iterate 7 (focus (simp only [go_sem, *, Tryz.results60]; (try rfl); done)))
  exact h
theorem all_true {α : Type _} (l : List α) : l.all (fun _ => true) = true := by simp
theorem pl_skip2 {ops : Array Oper} {i p : Nat} {q : List Nat} {prot : List (Nat × List Nat)} {S S' : List Blk} (hp : relB ops i p = false) (h : ProtL ops i prot S S') : ProtL ops i ((p, q) :: prot) S S' := pl_skip hp h
def Bld (S : List Blk) (a g i : Nat) (ad : AV) (bs : List UInt8) : Prop :=
  S[a]? = some (.cells [ad, .sown g i bs.length] (some 71)) ∧ S[g]? = some (.arr 5 1 0 i (bs.map bAV)) ∧ (ad = .nilp ∨ ad = .own a 0)
set_option maxHeartbeats 1000000 in
theorem writeString (w0 : World) (S : List Blk) (a g i : Nat) (ad : AV) (bs s : List UInt8) (hb : Bld S a g i ad bs) (hlen : (bs.length + s.length) * 1 ≤ 140737488355328) (R : AOut → List Blk → Prop)
    (h : R (.ret (.tup [.int .i64 s.length, .inil])) ((S.set g (.arr 5 1 0 (i + 1) ((bs ++ s).map bAV))).set a (.cells [.own a 0, .sown g (i + 1) (bs.length + s.length)] (some 71)))) :
    ACall Tryz.prog w0 33 [.own a 0, .str s] S R := by
  obtain ⟨ha, hg, had⟩ := hb
  have hal := (List.getElem?_eq_some_iff.1 ha).1
  have hgl := (List.getElem?_eq_some_iff.1 hg).1
  have hne : a ≠ g := by rintro rfl; rw [ha] at hg; cases hg
  obtain ⟨S1, hS1⟩ : ∃ S1, S.set a (.cells [.own a 0, .sown g i bs.length] (some 71)) = S1 := ⟨_, rfl⟩
  have hck : ∀ R : AOut → List Blk → Prop, R (.ret (.tup [])) S1 → ACall Tryz.prog w0 60 [.own a 0] S R := by
    intro R hR
    rcases had with rfl | rfl
    · exact copyCheck0 w0 S a _ ha (by simpa [AV.lt] using hgl) hal R (hS1 ▸ hR)
    · have : S.set a (.cells [.own a 0, .sown g i bs.length] (some 71)) = S := set_self ha
      rw [this] at hS1
      exact copyCheck1 w0 S a _ ha R (hS1 ▸ hR)
  have h1 : S1[a]? = some (.cells [.own a 0, .sown g i bs.length] (some 71)) := by rw [← hS1]; simp [hal]
  have h2 : S1[g]? = some (.arr 5 1 0 i (bs.map bAV)) := by rw [← hS1, List.getElem?_set_ne hne]; exact hg
  have hl1 : S1.length = S.length := by rw [← hS1]; simp
  have hbl : (bs.map bAV).length = bs.length := by simp
  have h3 : ∀ B, (S1.set g B)[a]? = some (.cells [.own a 0, .sown g i bs.length] (some 71)) := by intro B; rw [List.getElem?_set_ne (Ne.symm hne)]; exact h1
  have hfin : ∀ B C, (S1.set g B).set a C = (S.set g B).set a C := by
    intro B C
    rw [← hS1, List.set_comm _ _ hne, List.set_set]
  have Hfin := Lib.hid hfin
  have Hal := Lib.hid (And.intro hal hgl)
  clear hg had hal hgl hne hS1 hfin
  refine enter Tryz.func33 rfl (by decide +kernel) (by rw [Tryz.ntmps33]; simp) (by rw [Tryz.ntmps33]; decide) (fun hO => ?_); rw [Tryz.ntmps33]
  repeat' first
    | apply x_seq | apply x_skip | apply x_block | apply x_exit | apply x_ret | apply x_ops_nil | apply p_blk | apply p_exit_it | apply p_exit_hit | apply p_ret_it | apply p_ret_blk | apply p_panic_it | apply p_panic_blk | apply p_end
    | (apply p_exit_miss; (focus rfl))
    | (apply x_region; simp only [List.toList_toArray])
    | (apply x_step0; (focus rfl); (focus (simp only [go_sem, *, List.all_map, Function.comp_def, all_true]; (try rfl); done)); (focus rfl); simp only [putA])
    | (apply x_callA []; (focus (simp only [go_sem, *, List.all_map, Function.comp_def, all_true]; (try rfl); done)); (focus rfl); (focus (simp only [go_sem, *, List.all_map, Function.comp_def, all_true]; (try rfl); done)); (focus rfl); (iterate 2 (focus (simp only [go_sem, *, List.all_map, Function.comp_def, all_true]; (try rfl); done))); (first | (apply hck)); simp only [afterCall, putA])
    | (apply x_panic; (focus (simp only [go_sem, *, List.all_map, Function.comp_def, all_true]; (try rfl); done)); (focus rfl); (focus (simp only [go_sem, *, List.all_map, Function.comp_def, all_true]; (try rfl); done)))
    | (apply x_step; (iterate 2 (focus (simp only [go_sem, *, List.all_map, Function.comp_def, all_true]; (try rfl); done))); (focus rfl); simp only [putA])
    | (apply x_unwanted; (focus (simp only [go_sem, *, List.all_map, Function.comp_def, all_true]; (try rfl); done)); (focus rfl); simp only [putA])
    | (apply x_condT; (focus (simp only [go_sem, *, List.all_map, Function.comp_def, all_true]; (try rfl); done)))
    | (apply x_condF; (focus (simp only [go_sem, *, List.all_map, Function.comp_def, all_true]; (try rfl); done)))
    | (apply x_guardS; (focus rfl); (fail_if_success (focus (show _ = some true; (focus (simp only [go_sem, *, List.all_map, Function.comp_def, all_true]; (try rfl); done))))); (focus (simp only [go_sem, *, List.all_map, Function.comp_def, all_true]; (try rfl); done)); all_goals (intro hb; try simp only [Bool.not_eq_true', Bool.not_eq_false'] at hb))
    | (apply x_condS; (focus (simp only [go_sem, *, List.all_map, Function.comp_def, all_true]; (try rfl); done)); all_goals (intro hb; try simp only [Bool.not_eq_true', Bool.not_eq_false'] at hb))
  (apply f_retX; iterate 5 (focus (simp only [go_sem, *, Tryz.results33]; (try rfl); done)))
  · rw [Hfin.out]
    refine OuterOk.set (OuterOk.set hO ?_) ?_
    · have h4 : ltL S.length (List.map bAV bs ++ List.map bAV s) = true := by rw [← List.map_append]; exact bAV_ltL _ _
      exact h4
    · have := Hal.out; simp [Blk.ltB, ltL, AV.lt, this.1, this.2]
  · simp [hl1]
  · rw [Hfin.out]; rw [List.map_append] at h; exact h
set_option maxHeartbeats 1000000 in
theorem bldString (w0 : World) (S : List Blk) (a g i : Nat) (ad : AV) (bs : List UInt8) (hb : Bld S a g i ad bs) (hpos : 1 ≤ bs.length) (R : AOut → List Blk → Prop)
    (h : R (.ret (.str bs)) (S.set g .dead)) : ACall Tryz.prog w0 35 [.own a 0] S R := by
  obtain ⟨ha, hg, had⟩ := hb
  have hby := bytesOf_map bs
  have hok8 := okBytes_map bs
  have hbl : (bs.map bAV).length = bs.length := by simp
  have hne : a ≠ g := by rintro rfl; rw [ha] at hg; cases hg
  have h3 : ∀ B, (S.set g B)[a]? = some (.cells [ad, .sown g i bs.length] (some 71)) := by intro B; rw [List.getElem?_set_ne (Ne.symm hne)]; exact ha
  clear hne
  clear had
  refine enter Tryz.func35 rfl (by decide +kernel) (by rw [Tryz.ntmps35]; simp) (by rw [Tryz.ntmps35]; decide) (fun hO => ?_); rw [Tryz.ntmps35]
  repeat' first
    | apply x_seq | apply x_skip | apply x_block | apply x_exit | apply x_ret | apply x_ops_nil | apply p_blk | apply p_exit_it | apply p_exit_hit | apply p_ret_it | apply p_ret_blk | apply p_panic_it | apply p_panic_blk | apply p_end
    | (apply p_exit_miss; (focus rfl))
    | (apply x_region; simp only [List.toList_toArray])
    | (apply x_step0; (focus rfl); (focus (simp only [go_sem, *]; (try rfl); done)); (focus rfl); simp only [putA])
    | (apply x_panic; (focus (simp only [go_sem, *]; (try rfl); done)); (focus rfl); (focus (simp only [go_sem, *]; (try rfl); done)))
    | (apply x_step; (iterate 2 (focus (simp only [go_sem, *]; (try rfl); done))); (focus rfl); simp only [putA])
    | (apply x_unwanted; (focus (simp only [go_sem, *]; (try rfl); done)); (focus rfl); simp only [putA])
    | (apply x_condT; (focus (simp only [go_sem, *]; (try rfl); done)))
    | (apply x_condF; (focus (simp only [go_sem, *]; (try rfl); done)))
    | (apply x_guardS; (focus rfl); (fail_if_success (focus (show _ = some true; (focus (simp only [go_sem, *]; (try rfl); done))))); (focus (simp only [go_sem, *]; (try rfl); done)); all_goals (intro hb; try simp only [Bool.not_eq_true', Bool.not_eq_false'] at hb))
    | (apply x_condS; (focus (simp only [go_sem, *]; (try rfl); done)); all_goals (intro hb; try simp only [Bool.not_eq_true', Bool.not_eq_false'] at hb))
    | (apply d_draw; (focus exact mixed); (focus ((simp only [List.size_toArray, List.length_cons, List.length_nil, Nat.reduceAdd]; try rfl); done)))
    | (apply d_done; (focus decide +kernel))
    | ((first | (apply d_take 0; (focus decide +kernel)) | (apply d_take 1; (focus decide +kernel)) | (apply d_take 2; (focus decide +kernel)) | (apply d_take 3; (focus decide +kernel)) | (apply d_take 4; (focus decide +kernel)) | (apply d_take 5; (focus decide +kernel)) | (apply d_take 6; (focus decide +kernel)) | (apply d_take 7; (focus decide +kernel)) | (apply d_take 8; (focus decide +kernel)) | (apply d_take 9; (focus decide +kernel)) | (apply d_take 10; (focus decide +kernel)) | (apply d_take 11; (focus decide +kernel)) | (apply d_take 12; (focus decide +kernel)) | (apply d_take 13; (focus decide +kernel)) | (apply d_take 14; (focus decide +kernel)) | (apply d_take 15; (focus decide +kernel)) | (apply d_take 16; (focus decide +kernel)) | (apply d_take 17; (focus decide +kernel))); (focus (first | exact qds_FPost | exact qds_RPost | exact qds_YB | assumption)); (focus rfl); (iterate 3 (focus (simp only [go_sem, *]; (try rfl); done))); (focus rfl); (focus (simp only [go_sem, *]; (try rfl); done)); simp only [putA])
    | ((first | (apply d_unw 0; (focus decide +kernel)) | (apply d_unw 1; (focus decide +kernel)) | (apply d_unw 2; (focus decide +kernel)) | (apply d_unw 3; (focus decide +kernel)) | (apply d_unw 4; (focus decide +kernel)) | (apply d_unw 5; (focus decide +kernel)) | (apply d_unw 6; (focus decide +kernel)) | (apply d_unw 7; (focus decide +kernel)) | (apply d_unw 8; (focus decide +kernel)) | (apply d_unw 9; (focus decide +kernel)) | (apply d_unw 10; (focus decide +kernel)) | (apply d_unw 11; (focus decide +kernel)) | (apply d_unw 12; (focus decide +kernel)) | (apply d_unw 13; (focus decide +kernel)) | (apply d_unw 14; (focus decide +kernel)) | (apply d_unw 15; (focus decide +kernel)) | (apply d_unw 16; (focus decide +kernel)) | (apply d_unw 17; (focus decide +kernel))); (focus (first | exact qds_FPost | exact qds_RPost | exact qds_YB | assumption)); (focus rfl); (iterate 2 (focus (simp only [go_sem, *]; (try rfl); done))); (focus rfl); simp only [putA])
    | (first | (apply d_one 0; (focus decide +kernel)) | (apply d_one 1; (focus decide +kernel)) | (apply d_one 2; (focus decide +kernel)) | (apply d_one 3; (focus decide +kernel)) | (apply d_one 4; (focus decide +kernel)) | (apply d_one 5; (focus decide +kernel)) | (apply d_one 6; (focus decide +kernel)) | (apply d_one 7; (focus decide +kernel)) | (apply d_one 8; (focus decide +kernel)) | (apply d_one 9; (focus decide +kernel)) | (apply d_one 10; (focus decide +kernel)) | (apply d_one 11; (focus decide +kernel)) | (apply d_one 12; (focus decide +kernel)) | (apply d_one 13; (focus decide +kernel)) | (apply d_one 14; (focus decide +kernel)) | (apply d_one 15; (focus decide +kernel)) | (apply d_one 16; (focus decide +kernel)) | (apply d_one 17; (focus decide +kernel)))
    | (apply o_step; (iterate 3 (focus (simp only [go_sem, *]; (try rfl); done))); (focus rfl); simp only [putA])
    | (apply o_unw; (iterate 2 (focus (simp only [go_sem, *]; (try rfl); done))); (focus rfl); simp only [putA])
    | apply pr_nil | apply pr_same | apply pr_go | apply pl_nil | apply pl_none | (apply pl_skip; (focus decide +kernel)) | (apply pl_one; (focus (simp only [go_sem, *]; (try rfl); done)))
  · repeat' first | exact pl_nil | refine pl_none ?_ | refine pl_skip2 (by decide +kernel) ?_ | refine pl_one ((h3 _).trans ha.symm) ?_
  (apply f_retX; iterate 5 (focus (simp only [go_sem, *, Tryz.results35]; (try rfl); done)))
  · exact OuterOk.set hO rfl
  · simp
  · exact h
end Go.Proofs.YtnndmokndgnidaaGreatDoor
namespace Go.Proofs.YtnndmokndgnidaaGreatDoor
open Go Go.Fen
set_option linter.unusedSimpArgs false
set_option linter.unusedVariables false
attribute [local irreducible] RunX WP ACall AnyP OpA ProtL
set_option maxRecDepth 8000
def swapP (e : AV × AV) : AV × AV := (e.2, e.1)
theorem kinds_mem {e : AV × AV} (h : e ∈ kindsL) : ∃ k n, e = (.int .u8 k, .int .i64 n) := by
  simp only [kindsL, List.mem_cons, List.not_mem_nil, or_false] at h
  rcases h with rfl | rfl | rfl | rfl <;> exact ⟨_, _, rfl⟩
theorem kinds_snd : (kindsL.map Prod.snd).Nodup := by
  simp [kindsL]
theorem perm_new {vis rest : List (AV × AV)} {e : AV × AV} (hp : kindsL.Perm (vis ++ e :: rest)) : e.2 ∉ (vis.map swapP).map Prod.fst := by
  have h1 := (hp.map Prod.snd).nodup_iff.1 kinds_snd
  rw [List.map_append, List.nodup_append] at h1
  rw [List.map_map]
  intro hm
  obtain ⟨x, hx, he⟩ := List.mem_map.1 hm
  exact h1.2.2 _ (List.mem_map.2 ⟨x, hx, rfl⟩) _ (List.mem_map.2 ⟨e, List.mem_cons_self .., rfl⟩) he
theorem ltP_int {es : List (AV × AV)} (h : ∀ x ∈ es, ∃ k a j b, x = (.int k a, .int j b)) (n : Nat) : ltP n es = true := by
  induction es with
  | nil => rfl
  | cons x es ih =>
    obtain ⟨k, a, j, b, rfl⟩ := h x (List.mem_cons_self ..)
    rw [ltP, ih (fun y hy => h y (List.mem_cons_of_mem _ hy))]
    rfl
def bldM (b0 b1 b2 : Blk) (n : Nat) (ad : AV) (i : Nat) (bs : List UInt8) (Y : List Blk) : List Blk := b0 :: b1 :: b2 :: .cells [ad, .sown (n + 4) i bs.length] (some 71) :: .arr 5 1 0 i (bs.map bAV) :: Y
theorem bldM_is (X : List Blk) (b0 b1 b2 : Blk) (ad : AV) (i : Nat) (bs : List UInt8) (Y : List Blk) (h : ad = .nilp ∨ ad = .own (X.length + 3) 0) : Bld (X ++ bldM b0 b1 b2 X.length ad i bs Y) (X.length + 3) (X.length + 4) i ad bs :=
  ⟨by rw [List.getElem?_append_right (by omega)]; simp [bldM], by rw [List.getElem?_append_right (by omega)]; simp [bldM], h⟩
theorem wsM (w0 : World) (X : List Blk) (b0 b1 b2 : Blk) (ad : AV) (i : Nat) (bs s : List UInt8) (Y : List Blk) (had : ad = .nilp ∨ ad = .own (X.length + 3) 0) (hlen : (bs.length + s.length) * 1 ≤ 140737488355328) (R : AOut → List Blk → Prop)
    (h : R (.ret (.tup [.int .i64 s.length, .inil])) (X ++ bldM b0 b1 b2 X.length (.own (X.length + 3) 0) (i + 1) (bs ++ s) Y)) : ACall Tryz.prog w0 33 [.own (X.length + 3) 0, .str s] (X ++ bldM b0 b1 b2 X.length ad i bs Y) R := by
  refine writeString w0 _ _ _ i ad bs s (bldM_is X b0 b1 b2 ad i bs Y had) hlen R ?_
  rw [set_new, set_new]
  rw [bldM, List.length_append] at h
  exact h
theorem ws0 (w0 : World) (X : List Blk) (b0 b1 b2 : Blk) (s : List UInt8) (Y : List Blk) (hlen : s.length ≤ 1000000) (R : AOut → List Blk → Prop)
    (h : R (.ret (.tup [.int .i64 s.length, .inil])) (X ++ b0 :: b1 :: b2 :: .cells [.own (X.length + 3) 0, .sown (X.length + 4) 1 s.length] (some 71) :: .arr 5 1 0 1 (s.map bAV) :: Y)) :
    ACall Tryz.prog w0 33 [.own (X.length + 3) 0, .str s] (X ++ b0 :: b1 :: b2 :: .cells [.nilp, .sown (X.length + 4) 0 0] (some 71) :: .arr 5 1 0 0 [] :: Y) R := by
  have := wsM w0 X b0 b1 b2 .nilp 0 [] s Y (.inl rfl) (by simp; omega) R (by simpa [bldM] using h)
  exact this
theorem wsN (w0 : World) (X : List Blk) (b0 b1 b2 : Blk) (i : Nat) (bs s : List UInt8) (Y : List Blk) (hlen : (bs.length + s.length) * 1 ≤ 140737488355328) (R : AOut → List Blk → Prop)
    (h : R (.ret (.tup [.int .i64 s.length, .inil])) (X ++ b0 :: b1 :: b2 :: .cells [.own (X.length + 3) 0, .sown (X.length + 4) (i + 1) (bs ++ s).length] (some 71) :: .arr 5 1 0 (i + 1) ((bs ++ s).map bAV) :: Y)) :
    ACall Tryz.prog w0 33 [.own (X.length + 3) 0, .str s] (X ++ b0 :: b1 :: b2 :: .cells [.own (X.length + 3) 0, .sown (X.length + 4) i bs.length] (some 71) :: .arr 5 1 0 i (bs.map bAV) :: Y) R :=
  wsM w0 X b0 b1 b2 _ i bs s Y (.inr rfl) hlen R h
theorem bsN (w0 : World) (X : List Blk) (b0 b1 b2 : Blk) (i : Nat) (bs : List UInt8) (Y : List Blk) (hpos : 1 ≤ bs.length) (R : AOut → List Blk → Prop)
    (h : R (.ret (.str bs)) (X ++ b0 :: b1 :: b2 :: .cells [.own (X.length + 3) 0, .sown (X.length + 4) i bs.length] (some 71) :: .dead :: Y)) :
    ACall Tryz.prog w0 35 [.own (X.length + 3) 0] (X ++ b0 :: b1 :: b2 :: .cells [.own (X.length + 3) 0, .sown (X.length + 4) i bs.length] (some 71) :: .arr 5 1 0 i (bs.map bAV) :: Y) R := by
  refine bldString w0 _ _ _ i _ bs (bldM_is X b0 b1 b2 _ i bs Y (.inr rfl)) hpos R ?_
  rw [set_new]
  exact h
def letter (k : Int) : UInt8 := if k = 1 then 111 else if k = 2 then 105 else if k = 3 then 114 else 109
def lineS (x : It) : List UInt8 := Lib.itoa x.wait ++ [32] ++ [letter x.kind] ++ [32] ++ (if x.kind = 3 then twoS x.cols x.rows else quoteS x.text) ++ [10]
def headS (r : Rec) : List UInt8 := [102, 101, 110, 101, 115, 116, 114, 97, 32, 49, 32] ++ twoS r.cols r.rows ++ [10]
def bodyS (r : Rec) (k : Nat) : List UInt8 := headS r ++ (r.items.take k).flatMap lineS
def printS (r : Rec) : List UInt8 := bodyS r r.items.length
theorem bodyS_succ {r : Rec} {k : Nat} {x : It} (h : r.items[k]? = some x) : bodyS r (k + 1) = bodyS r k ++ lineS x := by
  unfold bodyS
  rw [List.take_add_one, h]
  simp
theorem quoteS_len (s : List UInt8) : (quoteS s).length ≤ 4 * s.length + 2 := by
  have := flat_len s
  unfold quoteS
  simp only [List.length_cons, List.length_append, List.length_nil]; omega
theorem twoS_len {a b : Int} (h1 : -9223372036854775808 ≤ a) (h2 : a ≤ 9223372036854775807) (h3 : -9223372036854775808 ≤ b) (h4 : b ≤ 9223372036854775807) : (twoS a b).length ≤ 43 := by
  have := Lib.itoa_length_le a h1 h2
  have := Lib.itoa_length_le b h3 h4
  unfold twoS
  simp; omega
def letters : List (AV × AV) := kindsL.map swapP
set_option maxHeartbeats 4000000 in
theorem print1 (w0 : World) (hT : Tab w0) (S : List Blk) (r : Rec) (hm : (r.items.length : Int) < 9223372036854775807) (R : AOut → List Blk → Prop) (h : R (.ret (.tup [.str (printS r), .int .i64 0])) S) (hc : checkB r = true) : ACall Tryz.prog w0 9 [r.av] S R := by
  have hck := fun S' => check w0 S' r hm
  simp only [hc, if_true] at hck
  have hki := kinds w0
  have hck1 := hc
  unfold checkB sizeB at hck1
  simp only [Bool.and_eq_true, decide_eq_true_eq] at hck1
  obtain ⟨⟨⟨⟨⟨z1, z2⟩, z3⟩, z4⟩, hl⟩, hall⟩ := hck1
  unfold Rec.av at hck ⊢
  refine enter Tryz.func9 rfl (by decide +kernel) (by rw [Tryz.ntmps9]; simp) (by rw [Tryz.ntmps9]; decide) (fun hO => ?_); rw [Tryz.ntmps9]
  repeat' first
    | apply x_seq | apply x_skip | apply x_block | apply x_exit | apply x_ret | apply x_ops_nil | apply p_blk | apply p_exit_it | apply p_exit_hit | apply p_ret_it | apply p_ret_blk | apply p_panic_it | apply p_panic_blk | apply p_end
    | (apply p_exit_miss; (focus rfl))
    | (apply x_region; simp only [List.toList_toArray])
    | (apply x_step0; (focus rfl); (focus (simp only [go_sem, *]; (try rfl); done)); (focus rfl); simp only [putA])
    | (apply x_callA []; (focus (simp only [go_sem, *]; (try rfl); done)); (focus rfl); (focus (simp only [go_sem, *]; (try rfl); done)); (focus rfl); (iterate 2 (focus (simp only [go_sem, *]; (try rfl); done))); (first | (apply hck) | (apply hki)); simp only [afterCall, putA])
    | (apply x_panic; (focus (simp only [go_sem, *]; (try rfl); done)); (focus rfl); (focus (simp only [go_sem, *]; (try rfl); done)))
    | (apply x_step; (iterate 2 (focus (simp only [go_sem, *]; (try rfl); done))); (focus rfl); simp only [putA])
    | (apply x_unwanted; (focus (simp only [go_sem, *]; (try rfl); done)); (focus rfl); simp only [putA])
    | (apply x_condT; (focus (simp only [go_sem, *]; (try rfl); done)))
    | (apply x_condF; (focus (simp only [go_sem, *]; (try rfl); done)))
    | (apply x_guardS; (focus rfl); (fail_if_success (focus (show _ = some true; (focus (simp only [go_sem, *]; (try rfl); done))))); (focus (simp only [go_sem, *]; (try rfl); done)); all_goals (intro hb; try simp only [Bool.not_eq_true', Bool.not_eq_false'] at hb))
    | (apply x_condS; (focus (simp only [go_sem, *]; (try rfl); done)); all_goals (intro hb; try simp only [Bool.not_eq_true', Bool.not_eq_false'] at hb))
  refine x_ind (fun (p : Option (AV × AV) × List (AV × AV) × List (AV × AV)) env S' => kindsL.Perm (p.2.1 ++ p.2.2) ∧ (∀ n, (Blk.mit p.1 []).ltB n = true) ∧ env 1000000 = .dfr [] ∧ env 1 = .own S.length 0 ∧ env 5 = .fn (.func 30) [] [] ∧ env 6 = .mown (S.length + 1) ∧ env 20 = .own (S.length + 2) 0 ∧
    S' = S ++ [Blk.cells [AV.int .i64 r.cols, AV.int .i64 r.rows, AV.sval false (List.map It.av r.items)], .mp false (p.2.1.map swapP), .mit p.1 p.2.2]) (fun p => p.2.2.length) (none, [], kindsL) ?_ ?_
  · exact ⟨.refl _, fun _ => rfl, by (simp only [go_sem, *]; try rfl), by (simp only [go_sem, *]; try rfl), by (simp only [go_sem, *]; try rfl), by (simp only [go_sem, *]; try rfl), by (simp only [go_sem, *]; try rfl), rfl⟩
  · rintro ⟨cur, vis, rest⟩ env S' ⟨hp, hcur, e0, e1, e5, e6, e20, rfl⟩ IH
    have HI := Lib.hid IH
    have HP := Lib.hid hp
    have HT := Lib.hid hT
    clear IH hp hT hki hck
    repeat' first
      | apply x_seq | apply x_skip | apply x_block | apply x_exit | apply x_ret | apply x_ops_nil | apply p_blk | apply p_exit_it | apply p_exit_hit | apply p_ret_it | apply p_ret_blk | apply p_panic_it | apply p_panic_blk | apply p_end
      | (apply p_exit_miss; (focus rfl))
      | (apply x_region; simp only [List.toList_toArray])
      | (apply x_step0; (focus rfl); (focus (simp only [go_sem, *]; (try rfl); done)); (focus rfl); simp only [putA])
      | (apply x_panic; (focus (simp only [go_sem, *]; (try rfl); done)); (focus rfl); (focus (simp only [go_sem, *]; (try rfl); done)))
      | (apply x_step; (iterate 2 (focus (simp only [go_sem, *]; (try rfl); done))); (focus rfl); simp only [putA])
      | (apply x_unwanted; (focus (simp only [go_sem, *]; (try rfl); done)); (focus rfl); simp only [putA])
      | (apply x_condT; (focus (simp only [go_sem, *]; (try rfl); done)))
      | (apply x_condF; (focus (simp only [go_sem, *]; (try rfl); done)))
      | (apply x_guardS; (focus rfl); (fail_if_success (focus (show _ = some true; (focus (simp only [go_sem, *]; (try rfl); done))))); (focus (simp only [go_sem, *]; (try rfl); done)); all_goals (intro hb; try simp only [Bool.not_eq_true', Bool.not_eq_false'] at hb))
      | (apply x_condS; (focus (simp only [go_sem, *]; (try rfl); done)); all_goals (intro hb; try simp only [Bool.not_eq_true', Bool.not_eq_false'] at hb))
    apply x_nextM
    · (simp only [go_sem, *]; try rfl)
    · rfl
    · (simp only [go_sem, *]; try rfl)
    · (simp only [go_sem, *]; try rfl)
    · rfl
    · intro hr
      have hp := HP.out
      rw [hr, List.append_nil] at hp
      subst hr
      simp only [putA]
      refine x_mperm (S.length + 1) (es' := letters) (by (simp only [go_sem, *]; try rfl)) (hp.symm.map swapP) (by (simp only [go_sem, *]; try rfl)) ?_
      repeat' first
        | apply x_seq | apply x_skip | apply x_block | apply x_exit | apply x_ret | apply x_ops_nil | apply p_blk | apply p_exit_it | apply p_exit_hit | apply p_ret_it | apply p_ret_blk | apply p_panic_it | apply p_panic_blk | apply p_end
        | (apply p_exit_miss; (focus rfl))
        | (apply x_region; simp only [List.toList_toArray])
        | (apply x_step0; (focus rfl); (focus (simp only [go_sem, *]; (try rfl); done)); (focus rfl); simp only [putA])
        | (apply x_panic; (focus (simp only [go_sem, *]; (try rfl); done)); (focus rfl); (focus (simp only [go_sem, *]; (try rfl); done)))
        | (apply x_step; (iterate 2 (focus (simp only [go_sem, *]; (try rfl); done))); (focus rfl); simp only [putA])
        | (apply x_unwanted; (focus (simp only [go_sem, *]; (try rfl); done)); (focus rfl); simp only [putA])
        | (apply x_condT; (focus (simp only [go_sem, *]; (try rfl); done)))
        | (apply x_condF; (focus (simp only [go_sem, *]; (try rfl); done)))
        | (apply x_guardS; (focus rfl); (fail_if_success (focus (show _ = some true; (focus (simp only [go_sem, *]; (try rfl); done))))); (focus (simp only [go_sem, *]; (try rfl); done)); all_goals (intro hb; try simp only [Bool.not_eq_true', Bool.not_eq_false'] at hb))
        | (apply x_condS; (focus (simp only [go_sem, *]; (try rfl); done)); all_goals (intro hb; try simp only [Bool.not_eq_true', Bool.not_eq_false'] at hb))
      have htw := fun S' => two w0 HT.out S' r.cols r.rows (by omega) (by omega) (by omega) (by omega)
      refine x_thawC (a := S.length + 3) (j := 1) 5 1 (by (simp only [go_sem, *]; try rfl)) (by (simp only [go_sem, *]; try rfl)) (by decide) ?_
      simp only [go_sem, *]
      obtain ⟨tw, htwo⟩ : ∃ tw, twoS r.cols r.rows = tw := ⟨_, rfl⟩
      rw [htwo] at htw
      have HTW := Lib.hid htwo
      have htl : tw.length ≤ 43 := by
        rw [← htwo, twoS]
        have := Lib.itoa_length_le r.cols (by omega) (by omega)
        have := Lib.itoa_length_le r.rows (by omega) (by omega)
        simp; omega
      have c1 : 11 + tw.length ≤ 9223372036854775807 := by omega
      have c2 : tw.length ≤ 9223372036854775796 := by omega
      have c3 : tw.length ≤ 9223372036854775795 := by omega
      have c4 : tw.length ≤ 999988 := by omega
      have HTL := Lib.hid htl
      clear htl
      clear htwo hp
      repeat' first
        | apply x_seq | apply x_skip | apply x_block | apply x_exit | apply x_ret | apply x_ops_nil | apply p_blk | apply p_exit_it | apply p_exit_hit | apply p_ret_it | apply p_ret_blk | apply p_panic_it | apply p_panic_blk | apply p_end
        | (apply p_exit_miss; (focus rfl))
        | (apply x_region; simp only [List.toList_toArray])
        | (apply x_step0; (focus rfl); (focus (simp only [go_sem, *, List.length_append, List.length_cons, List.length_nil]; (try rfl); done)); (focus rfl); simp only [putA])
        | (apply x_callA []; (focus (simp only [go_sem, *, List.length_append, List.length_cons, List.length_nil]; (try rfl); done)); (focus rfl); (focus (simp only [go_sem, *, List.length_append, List.length_cons, List.length_nil]; (try rfl); done)); (focus rfl); (iterate 2 (focus (simp only [go_sem, *, List.length_append, List.length_cons, List.length_nil]; (try rfl); done))); (first | (apply htw) | (apply ws0; (focus (simp only [go_sem, *, List.length_append, List.length_cons, List.length_nil]; (try rfl); done)))); simp only [afterCall, putA])
        | (apply x_panic; (focus (simp only [go_sem, *, List.length_append, List.length_cons, List.length_nil]; (try rfl); done)); (focus rfl); (focus (simp only [go_sem, *, List.length_append, List.length_cons, List.length_nil]; (try rfl); done)))
        | (apply x_step; (iterate 2 (focus (simp only [go_sem, *, List.length_append, List.length_cons, List.length_nil]; (try rfl); done))); (focus rfl); simp only [putA])
        | (apply x_unwanted; (focus (simp only [go_sem, *, List.length_append, List.length_cons, List.length_nil]; (try rfl); done)); (focus rfl); simp only [putA])
        | (apply x_condT; (focus (simp only [go_sem, *, List.length_append, List.length_cons, List.length_nil]; (try rfl); done)))
        | (apply x_condF; (focus (simp only [go_sem, *, List.length_append, List.length_cons, List.length_nil]; (try rfl); done)))
        | (apply x_guardS; (focus rfl); (fail_if_success (focus (show _ = some true; (focus (simp only [go_sem, *, List.length_append, List.length_cons, List.length_nil]; (try rfl); done))))); (focus (simp only [go_sem, *, List.length_append, List.length_cons, List.length_nil]; (try rfl); done)); all_goals (intro hb; try simp only [Bool.not_eq_true', Bool.not_eq_false'] at hb))
        | (apply x_condS; (focus (simp only [go_sem, *, List.length_append, List.length_cons, List.length_nil]; (try rfl); done)); all_goals (intro hb; try simp only [Bool.not_eq_true', Bool.not_eq_false'] at hb))
      have hb0 : headS r = 102 :: 101 :: 110 :: 101 :: 115 :: 116 :: 114 :: 97 :: 32 :: 49 :: 32 :: (tw ++ [10]) := by unfold headS; rw [HTW.out]; rfl
      refine x_ind (fun (i : Nat) env S' => i ≤ r.items.length ∧ (bodyS r i).length ≤ 60 + 20000 * i ∧ env 1000000 = .dfr [] ∧ env 1 = .own S.length 0 ∧ env 5 = .fn (.func 30) [] [] ∧ env 6 = .mown (S.length + 1) ∧ env 9 = .own (S.length + 3) 0 ∧
        env 39 = .sval false (r.items.map It.av) ∧ env 40 = .int .i64 r.items.length ∧ env 41 = .int .i64 (i : Int) ∧
        S' = S ++ [Blk.cells [AV.int .i64 r.cols, AV.int .i64 r.rows, AV.sval false (List.map It.av r.items)], .mp false letters, .mit cur [], .cells [.own (S.length + 3) 0, .sown (S.length + 4) (i + 1) (bodyS r i).length] (some 71), .arr 5 1 0 (i + 1) ((bodyS r i).map bAV)]) (fun i => r.items.length - i) 0 ?_ ?_
      · have hb1 : bodyS r 0 = headS r := by simp [bodyS]
        rw [hb1, hb0]
        refine ⟨Nat.zero_le _, ?_, by (simp only [go_sem, *]; try rfl), by (simp only [go_sem, *]; try rfl), by (simp only [go_sem, *]; try rfl), by (simp only [go_sem, *]; try rfl), by (simp only [go_sem, *]; try rfl), by (simp only [go_sem, *]; try rfl), by (simp only [go_sem, *]; try rfl), by (simp only [go_sem, *]; try rfl), ?_⟩
        · have := HTL.out; simp; omega
        · simp only [List.length_append, List.length_cons, List.length_nil, List.map_cons, List.map_append, List.map_nil, Nat.zero_add]
      · clear hb0 HI e0 e1 e5 e6 e20 htw c1 c2 c3 c4
        rintro i env S' ⟨hi, hbl, e0, e1, e5, e6, e9, e39, e40, e41, rfl⟩ IH
        have HI := Lib.hid IH
        have HALL := Lib.hid hall
        clear IH hall z1 z2 z3 z4 hm hc HP HTW HTL
        by_cases hlt : i < r.items.length
        · obtain ⟨x, hx⟩ : ∃ x, r.items[i]? = some x := ⟨_, List.getElem?_eq_getElem hlt⟩
          have h1 : decide ((i : Int) < (r.items.length : Int)) = true := by simpa using hlt
          have hw1 : IntKind.i64.wrap ((i : Int) + 1) = (i : Int) + 1 := IntWalk.i64_in _ (by omega)
          have Hsu := Lib.hid (bodyS_succ hx)
          have hxm : x ∈ r.items := List.mem_of_getElem? hx
          have hit := List.all_eq_true.1 HALL.out x hxm
          have Hil := Lib.hid hlt
          have Hxa := Lib.hid hx
          obtain ⟨ia, hia⟩ : ∃ ia, Lib.itoa x.wait = ia := ⟨_, rfl⟩
          obtain ⟨bs, hbs⟩ : ∃ bs, bodyS r i = bs := ⟨_, rfl⟩
          rw [hbs] at hbl Hsu ⊢
          have HBL := Lib.hid hbl
          have Hl := Lib.hid hl
          unfold itemB at hit
          simp only [Bool.and_eq_true, decide_eq_true_eq] at hit
          obtain ⟨⟨w1, w2⟩, hk⟩ := hit
          have ial : ia.length ≤ 21 := by rw [← hia]; exact Lib.itoa_length_le _ (by omega) (by omega)
          have hio := fun S' => itoa w0 HT.out S' x.wait (by omega) (by omega)
          rw [hia] at hio
          have hlet : ∀ n, ltP n [(AV.int .i64 1, AV.int .u8 111), (AV.int .i64 2, AV.int .u8 105), (AV.int .i64 3, AV.int .u8 114), (AV.int .i64 4, AV.int .u8 109)] = true := ltP_int (by simp)
          by_cases k3 : x.kind = 3
          · have htx : x.text.length = 0 ∧ sizeB x.cols x.rows = true := by
              rw [if_neg (by simp; omega), if_neg (by simp; omega), if_pos (by simp; omega)] at hk
              simp at hk
              exact ⟨by rw [hk.2]; rfl, hk.1⟩
            have hsz := htx.2
            unfold sizeB at hsz
            simp only [Bool.and_eq_true, decide_eq_true_eq] at hsz
            obtain ⟨⟨⟨z1, z2⟩, z3⟩, z4⟩ := hsz
            obtain ⟨q, hqq⟩ : ∃ q, twoS x.cols x.rows = q := ⟨_, rfl⟩
            have hql : q.length ≤ 43 := by rw [← hqq]; exact twoS_len (by omega) (by omega) (by omega) (by omega)
            have hqo := fun S' => quote w0 S' x.text (by omega)
            have htq := fun S' => two w0 HT.out S' x.cols x.rows (by omega) (by omega) (by omega) (by omega)
            rw [hqq] at htq
            have hk3 : (x.kind == 3) = true := by simpa using k3
            have hln : lineS x = ia ++ [32] ++ [letter x.kind] ++ [32] ++ q ++ [10] := by unfold lineS; rw [if_pos k3, hia, hqq]
            have Hln := Lib.hid hln
            rw [k3] at Hln
            have Hql := Lib.hid hql
            have a1 : ia.length ≤ 9223372036854775806 := by omega
            have a2 : ia.length ≤ 9223372036854775805 := by omega
            have a3 : ia.length ≤ 9223372036854775804 := by omega
            have Hial := Lib.hid ial
            have a4 : ia.length + 1 + 1 + 1 + q.length ≤ 9223372036854775807 := by omega
            have a5 : ia.length + 1 + 1 + 1 + q.length ≤ 9223372036854775806 := by omega
            have a6 : (bs.length + (ia.length + 1 + 1 + 1 + q.length + 1)) * 1 ≤ 140737488355328 := by have := Hil.out; have := Hl.out; omega
            clear hlt hi hk hxm hl hbs hia hqq w1 w2 hln z1 z2 z3 z4 htx hbl hql ial
            repeat' first
              | apply x_seq | apply x_skip | apply x_block | apply x_exit | apply x_ret | apply x_ops_nil | apply p_blk | apply p_exit_it | apply p_exit_hit | apply p_ret_it | apply p_ret_blk | apply p_panic_it | apply p_panic_blk | apply p_end
              | (apply p_exit_miss; (focus rfl))
              | (apply x_region; simp only [List.toList_toArray])
              | (apply x_step0; (focus rfl); (focus (simp only [go_sem, *, It.av, letters, kindsL, swapP]; (try rfl); done)); (focus rfl); simp only [putA])
              | (apply x_callA []; (focus (simp only [go_sem, *, It.av, letters, kindsL, swapP]; (try rfl); done)); (focus rfl); (focus (simp only [go_sem, *, It.av, letters, kindsL, swapP]; (try rfl); done)); (focus rfl); (iterate 2 (focus (simp only [go_sem, *, It.av, letters, kindsL, swapP]; (try rfl); done))); (first | (apply hio) | (apply hqo) | (apply htq)); simp only [afterCall, putA])
              | (apply x_panic; (focus (simp only [go_sem, *, It.av, letters, kindsL, swapP]; (try rfl); done)); (focus rfl); (focus (simp only [go_sem, *, It.av, letters, kindsL, swapP]; (try rfl); done)))
              | (apply x_step; (iterate 2 (focus (simp only [go_sem, *, It.av, letters, kindsL, swapP]; (try rfl); done))); (focus rfl); simp only [putA])
              | (apply x_unwanted; (focus (simp only [go_sem, *, It.av, letters, kindsL, swapP]; (try rfl); done)); (focus rfl); simp only [putA])
              | (apply x_condT; (focus (simp only [go_sem, *, It.av, letters, kindsL, swapP]; (try rfl); done)))
              | (apply x_condF; (focus (simp only [go_sem, *, It.av, letters, kindsL, swapP]; (try rfl); done)))
              | (apply x_guardS; (focus rfl); (fail_if_success (focus (show _ = some true; (focus (simp only [go_sem, *, It.av, letters, kindsL, swapP]; (try rfl); done))))); (focus (simp only [go_sem, *, It.av, letters, kindsL, swapP]; (try rfl); done)); all_goals (intro hb; try simp only [Bool.not_eq_true', Bool.not_eq_false'] at hb))
              | (apply x_condS; (focus (simp only [go_sem, *, It.av, letters, kindsL, swapP]; (try rfl); done)); all_goals (intro hb; try simp only [Bool.not_eq_true', Bool.not_eq_false'] at hb))
              | (apply d_draw; (focus exact mixed); (focus ((simp only [List.size_toArray, List.length_cons, List.length_nil, Nat.reduceAdd]; try rfl); done)))
              | (apply d_done; (focus decide +kernel))
              | ((first | (apply d_take 0; (focus decide +kernel)) | (apply d_take 1; (focus decide +kernel)) | (apply d_take 2; (focus decide +kernel)) | (apply d_take 3; (focus decide +kernel)) | (apply d_take 4; (focus decide +kernel)) | (apply d_take 5; (focus decide +kernel)) | (apply d_take 6; (focus decide +kernel)) | (apply d_take 7; (focus decide +kernel)) | (apply d_take 8; (focus decide +kernel)) | (apply d_take 9; (focus decide +kernel)) | (apply d_take 10; (focus decide +kernel)) | (apply d_take 11; (focus decide +kernel)) | (apply d_take 12; (focus decide +kernel)) | (apply d_take 13; (focus decide +kernel)) | (apply d_take 14; (focus decide +kernel)) | (apply d_take 15; (focus decide +kernel)) | (apply d_take 16; (focus decide +kernel)) | (apply d_take 17; (focus decide +kernel))); (focus (first | exact qds_FPost | exact qds_RPost | exact qds_YB | assumption)); (focus rfl); (iterate 3 (focus (simp only [go_sem, *, It.av, letters, kindsL, swapP]; (try rfl); done))); (focus rfl); (focus (simp only [go_sem, *, It.av, letters, kindsL, swapP]; (try rfl); done)); simp only [putA])
              | ((first | (apply d_unw 0; (focus decide +kernel)) | (apply d_unw 1; (focus decide +kernel)) | (apply d_unw 2; (focus decide +kernel)) | (apply d_unw 3; (focus decide +kernel)) | (apply d_unw 4; (focus decide +kernel)) | (apply d_unw 5; (focus decide +kernel)) | (apply d_unw 6; (focus decide +kernel)) | (apply d_unw 7; (focus decide +kernel)) | (apply d_unw 8; (focus decide +kernel)) | (apply d_unw 9; (focus decide +kernel)) | (apply d_unw 10; (focus decide +kernel)) | (apply d_unw 11; (focus decide +kernel)) | (apply d_unw 12; (focus decide +kernel)) | (apply d_unw 13; (focus decide +kernel)) | (apply d_unw 14; (focus decide +kernel)) | (apply d_unw 15; (focus decide +kernel)) | (apply d_unw 16; (focus decide +kernel)) | (apply d_unw 17; (focus decide +kernel))); (focus (first | exact qds_FPost | exact qds_RPost | exact qds_YB | assumption)); (focus rfl); (iterate 2 (focus (simp only [go_sem, *, It.av, letters, kindsL, swapP]; (try rfl); done))); (focus rfl); simp only [putA])
              | (first | (apply d_one 0; (focus decide +kernel)) | (apply d_one 1; (focus decide +kernel)) | (apply d_one 2; (focus decide +kernel)) | (apply d_one 3; (focus decide +kernel)) | (apply d_one 4; (focus decide +kernel)) | (apply d_one 5; (focus decide +kernel)) | (apply d_one 6; (focus decide +kernel)) | (apply d_one 7; (focus decide +kernel)) | (apply d_one 8; (focus decide +kernel)) | (apply d_one 9; (focus decide +kernel)) | (apply d_one 10; (focus decide +kernel)) | (apply d_one 11; (focus decide +kernel)) | (apply d_one 12; (focus decide +kernel)) | (apply d_one 13; (focus decide +kernel)) | (apply d_one 14; (focus decide +kernel)) | (apply d_one 15; (focus decide +kernel)) | (apply d_one 16; (focus decide +kernel)) | (apply d_one 17; (focus decide +kernel)))
              | (apply o_step; (iterate 3 (focus (simp only [go_sem, *, It.av, letters, kindsL, swapP]; (try rfl); done))); (focus rfl); simp only [putA])
              | (apply o_unw; (iterate 2 (focus (simp only [go_sem, *, It.av, letters, kindsL, swapP]; (try rfl); done))); (focus rfl); simp only [putA])
              | apply pr_nil | apply pr_same | apply pr_go | apply pl_nil | apply pl_none | (apply pl_skip; (focus decide +kernel)) | (apply pl_one; (focus (simp only [go_sem, *, It.av, letters, kindsL, swapP]; (try rfl); done)))
              | (apply o_call []; (iterate 2 (focus (simp only [go_sem, *, It.av, letters, kindsL, swapP]; (try rfl); done))); (focus rfl); (focus (simp only [go_sem, *, It.av, letters, kindsL, swapP]; (try rfl); done)); (focus rfl); (iterate 2 (focus (simp only [go_sem, *, It.av, letters, kindsL, swapP]; (try rfl); done))); (first | (apply hio) | (apply hqo) | (apply htq)); simp only [afterOp, putA])
            apply d_two 2 8
            · decide +kernel
            · repeat' first
                | apply x_seq | apply x_skip | apply x_block | apply x_exit | apply x_ret | apply x_ops_nil | apply p_blk | apply p_exit_it | apply p_exit_hit | apply p_ret_it | apply p_ret_blk | apply p_panic_it | apply p_panic_blk | apply p_end
                | (apply p_exit_miss; (focus rfl))
                | (apply x_region; simp only [List.toList_toArray])
                | (apply x_step0; (focus rfl); (focus (simp only [go_sem, *, It.av, letters, kindsL, swapP, List.length_append, List.length_cons, List.length_nil]; (try rfl); done)); (focus rfl); simp only [putA])
                | (apply x_callA []; (focus (simp only [go_sem, *, It.av, letters, kindsL, swapP, List.length_append, List.length_cons, List.length_nil]; (try rfl); done)); (focus rfl); (focus (simp only [go_sem, *, It.av, letters, kindsL, swapP, List.length_append, List.length_cons, List.length_nil]; (try rfl); done)); (focus rfl); (iterate 2 (focus (simp only [go_sem, *, It.av, letters, kindsL, swapP, List.length_append, List.length_cons, List.length_nil]; (try rfl); done))); (first | (apply hio) | (apply hqo) | (apply htq) | (apply wsN; (focus (simp only [go_sem, *, It.av, letters, kindsL, swapP, List.length_append, List.length_cons, List.length_nil]; (try rfl); done)))); simp only [afterCall, putA])
                | (apply x_panic; (focus (simp only [go_sem, *, It.av, letters, kindsL, swapP, List.length_append, List.length_cons, List.length_nil]; (try rfl); done)); (focus rfl); (focus (simp only [go_sem, *, It.av, letters, kindsL, swapP, List.length_append, List.length_cons, List.length_nil]; (try rfl); done)))
                | (apply x_step; (iterate 2 (focus (simp only [go_sem, *, It.av, letters, kindsL, swapP, List.length_append, List.length_cons, List.length_nil]; (try rfl); done))); (focus rfl); simp only [putA])
                | (apply x_unwanted; (focus (simp only [go_sem, *, It.av, letters, kindsL, swapP, List.length_append, List.length_cons, List.length_nil]; (try rfl); done)); (focus rfl); simp only [putA])
                | (apply x_condT; (focus (simp only [go_sem, *, It.av, letters, kindsL, swapP, List.length_append, List.length_cons, List.length_nil]; (try rfl); done)))
                | (apply x_condF; (focus (simp only [go_sem, *, It.av, letters, kindsL, swapP, List.length_append, List.length_cons, List.length_nil]; (try rfl); done)))
                | (apply x_guardS; (focus rfl); (fail_if_success (focus (show _ = some true; (focus (simp only [go_sem, *, It.av, letters, kindsL, swapP, List.length_append, List.length_cons, List.length_nil]; (try rfl); done))))); (focus (simp only [go_sem, *, It.av, letters, kindsL, swapP, List.length_append, List.length_cons, List.length_nil]; (try rfl); done)); all_goals (intro hb; try simp only [Bool.not_eq_true', Bool.not_eq_false'] at hb))
                | (apply x_condS; (focus (simp only [go_sem, *, It.av, letters, kindsL, swapP, List.length_append, List.length_cons, List.length_nil]; (try rfl); done)); all_goals (intro hb; try simp only [Bool.not_eq_true', Bool.not_eq_false'] at hb))
                | (apply d_draw; (focus exact mixed); (focus ((simp only [List.size_toArray, List.length_cons, List.length_nil, Nat.reduceAdd]; try rfl); done)))
                | (apply d_done; (focus decide +kernel))
                | ((first | (apply d_take 0; (focus decide +kernel)) | (apply d_take 1; (focus decide +kernel)) | (apply d_take 2; (focus decide +kernel)) | (apply d_take 3; (focus decide +kernel)) | (apply d_take 4; (focus decide +kernel)) | (apply d_take 5; (focus decide +kernel)) | (apply d_take 6; (focus decide +kernel)) | (apply d_take 7; (focus decide +kernel)) | (apply d_take 8; (focus decide +kernel)) | (apply d_take 9; (focus decide +kernel)) | (apply d_take 10; (focus decide +kernel)) | (apply d_take 11; (focus decide +kernel)) | (apply d_take 12; (focus decide +kernel)) | (apply d_take 13; (focus decide +kernel)) | (apply d_take 14; (focus decide +kernel)) | (apply d_take 15; (focus decide +kernel)) | (apply d_take 16; (focus decide +kernel)) | (apply d_take 17; (focus decide +kernel))); (focus (first | exact qds_FPost | exact qds_RPost | exact qds_YB | assumption)); (focus rfl); (iterate 3 (focus (simp only [go_sem, *, It.av, letters, kindsL, swapP, List.length_append, List.length_cons, List.length_nil]; (try rfl); done))); (focus rfl); (focus (simp only [go_sem, *, It.av, letters, kindsL, swapP, List.length_append, List.length_cons, List.length_nil]; (try rfl); done)); simp only [putA])
                | ((first | (apply d_unw 0; (focus decide +kernel)) | (apply d_unw 1; (focus decide +kernel)) | (apply d_unw 2; (focus decide +kernel)) | (apply d_unw 3; (focus decide +kernel)) | (apply d_unw 4; (focus decide +kernel)) | (apply d_unw 5; (focus decide +kernel)) | (apply d_unw 6; (focus decide +kernel)) | (apply d_unw 7; (focus decide +kernel)) | (apply d_unw 8; (focus decide +kernel)) | (apply d_unw 9; (focus decide +kernel)) | (apply d_unw 10; (focus decide +kernel)) | (apply d_unw 11; (focus decide +kernel)) | (apply d_unw 12; (focus decide +kernel)) | (apply d_unw 13; (focus decide +kernel)) | (apply d_unw 14; (focus decide +kernel)) | (apply d_unw 15; (focus decide +kernel)) | (apply d_unw 16; (focus decide +kernel)) | (apply d_unw 17; (focus decide +kernel))); (focus (first | exact qds_FPost | exact qds_RPost | exact qds_YB | assumption)); (focus rfl); (iterate 2 (focus (simp only [go_sem, *, It.av, letters, kindsL, swapP, List.length_append, List.length_cons, List.length_nil]; (try rfl); done))); (focus rfl); simp only [putA])
                | (first | (apply d_one 0; (focus decide +kernel)) | (apply d_one 1; (focus decide +kernel)) | (apply d_one 2; (focus decide +kernel)) | (apply d_one 3; (focus decide +kernel)) | (apply d_one 4; (focus decide +kernel)) | (apply d_one 5; (focus decide +kernel)) | (apply d_one 6; (focus decide +kernel)) | (apply d_one 7; (focus decide +kernel)) | (apply d_one 8; (focus decide +kernel)) | (apply d_one 9; (focus decide +kernel)) | (apply d_one 10; (focus decide +kernel)) | (apply d_one 11; (focus decide +kernel)) | (apply d_one 12; (focus decide +kernel)) | (apply d_one 13; (focus decide +kernel)) | (apply d_one 14; (focus decide +kernel)) | (apply d_one 15; (focus decide +kernel)) | (apply d_one 16; (focus decide +kernel)) | (apply d_one 17; (focus decide +kernel)))
                | (apply o_step; (iterate 3 (focus (simp only [go_sem, *, It.av, letters, kindsL, swapP, List.length_append, List.length_cons, List.length_nil]; (try rfl); done))); (focus rfl); simp only [putA])
                | (apply o_unw; (iterate 2 (focus (simp only [go_sem, *, It.av, letters, kindsL, swapP, List.length_append, List.length_cons, List.length_nil]; (try rfl); done))); (focus rfl); simp only [putA])
                | apply pr_nil | apply pr_same | apply pr_go | apply pl_nil | apply pl_none | (apply pl_skip; (focus decide +kernel)) | (apply pl_one; (focus (simp only [go_sem, *, It.av, letters, kindsL, swapP, List.length_append, List.length_cons, List.length_nil]; (try rfl); done)))
                | (apply o_call []; (iterate 2 (focus (simp only [go_sem, *, It.av, letters, kindsL, swapP, List.length_append, List.length_cons, List.length_nil]; (try rfl); done))); (focus rfl); (focus (simp only [go_sem, *, It.av, letters, kindsL, swapP, List.length_append, List.length_cons, List.length_nil]; (try rfl); done)); (focus rfl); (iterate 2 (focus (simp only [go_sem, *, It.av, letters, kindsL, swapP, List.length_append, List.length_cons, List.length_nil]; (try rfl); done))); (first | (apply hio) | (apply hqo) | (apply htq) | (apply wsN; (focus (simp only [go_sem, *, It.av, letters, kindsL, swapP, List.length_append, List.length_cons, List.length_nil]; (try rfl); done)))); simp only [afterOp, putA])
              refine x_keep hO 5 [1, 5, 6, 9, 39, 40, 41] rfl (by (simp only [go_sem, *]; try rfl)) (by (simp only [go_sem, *]; try rfl)) (by (simp only [go_sem, *]; try rfl)) ?_
              simp only [List.take_succ_cons, List.take_zero]
              refine HI.out (i + 1) _ _ (by have := Hil.out; omega) ⟨Hil.out, ?_, ?_, ?_, ?_, ?_, ?_, ?_, ?_, ?_, ?_⟩
              · rw [Hsu.out, Hln.out]; have := HBL.out; have := Hial.out; have := Hql.out; simp only [List.length_append, List.length_cons, List.length_nil]; omega
              · (simp only [go_sem, *]; try rfl)
              · (simp only [go_sem, *]; try rfl)
              · (simp only [go_sem, *]; try rfl)
              · (simp only [go_sem, *]; try rfl)
              · (simp only [go_sem, *]; try rfl)
              · (simp only [go_sem, *]; try rfl)
              · (simp only [go_sem, *]; try rfl)
              · (simp only [go_sem, *]; try rfl)
              · rw [Hsu.out, Hln.out]
                simp only [List.length_append, List.length_cons, List.length_nil, Nat.zero_add]
                rfl
            · repeat' first
                | apply x_seq | apply x_skip | apply x_block | apply x_exit | apply x_ret | apply x_ops_nil | apply p_blk | apply p_exit_it | apply p_exit_hit | apply p_ret_it | apply p_ret_blk | apply p_panic_it | apply p_panic_blk | apply p_end
                | (apply p_exit_miss; (focus rfl))
                | (apply x_region; simp only [List.toList_toArray])
                | (apply x_step0; (focus rfl); (focus (simp only [go_sem, *, It.av, letters, kindsL, swapP, List.length_append, List.length_cons, List.length_nil]; (try rfl); done)); (focus rfl); simp only [putA])
                | (apply x_callA []; (focus (simp only [go_sem, *, It.av, letters, kindsL, swapP, List.length_append, List.length_cons, List.length_nil]; (try rfl); done)); (focus rfl); (focus (simp only [go_sem, *, It.av, letters, kindsL, swapP, List.length_append, List.length_cons, List.length_nil]; (try rfl); done)); (focus rfl); (iterate 2 (focus (simp only [go_sem, *, It.av, letters, kindsL, swapP, List.length_append, List.length_cons, List.length_nil]; (try rfl); done))); (first | (apply hio) | (apply hqo) | (apply htq) | (apply wsN; (focus (simp only [go_sem, *, It.av, letters, kindsL, swapP, List.length_append, List.length_cons, List.length_nil]; (try rfl); done)))); simp only [afterCall, putA])
                | (apply x_panic; (focus (simp only [go_sem, *, It.av, letters, kindsL, swapP, List.length_append, List.length_cons, List.length_nil]; (try rfl); done)); (focus rfl); (focus (simp only [go_sem, *, It.av, letters, kindsL, swapP, List.length_append, List.length_cons, List.length_nil]; (try rfl); done)))
                | (apply x_step; (iterate 2 (focus (simp only [go_sem, *, It.av, letters, kindsL, swapP, List.length_append, List.length_cons, List.length_nil]; (try rfl); done))); (focus rfl); simp only [putA])
                | (apply x_unwanted; (focus (simp only [go_sem, *, It.av, letters, kindsL, swapP, List.length_append, List.length_cons, List.length_nil]; (try rfl); done)); (focus rfl); simp only [putA])
                | (apply x_condT; (focus (simp only [go_sem, *, It.av, letters, kindsL, swapP, List.length_append, List.length_cons, List.length_nil]; (try rfl); done)))
                | (apply x_condF; (focus (simp only [go_sem, *, It.av, letters, kindsL, swapP, List.length_append, List.length_cons, List.length_nil]; (try rfl); done)))
                | (apply x_guardS; (focus rfl); (fail_if_success (focus (show _ = some true; (focus (simp only [go_sem, *, It.av, letters, kindsL, swapP, List.length_append, List.length_cons, List.length_nil]; (try rfl); done))))); (focus (simp only [go_sem, *, It.av, letters, kindsL, swapP, List.length_append, List.length_cons, List.length_nil]; (try rfl); done)); all_goals (intro hb; try simp only [Bool.not_eq_true', Bool.not_eq_false'] at hb))
                | (apply x_condS; (focus (simp only [go_sem, *, It.av, letters, kindsL, swapP, List.length_append, List.length_cons, List.length_nil]; (try rfl); done)); all_goals (intro hb; try simp only [Bool.not_eq_true', Bool.not_eq_false'] at hb))
                | (apply d_draw; (focus exact mixed); (focus ((simp only [List.size_toArray, List.length_cons, List.length_nil, Nat.reduceAdd]; try rfl); done)))
                | (apply d_done; (focus decide +kernel))
                | ((first | (apply d_take 0; (focus decide +kernel)) | (apply d_take 1; (focus decide +kernel)) | (apply d_take 2; (focus decide +kernel)) | (apply d_take 3; (focus decide +kernel)) | (apply d_take 4; (focus decide +kernel)) | (apply d_take 5; (focus decide +kernel)) | (apply d_take 6; (focus decide +kernel)) | (apply d_take 7; (focus decide +kernel)) | (apply d_take 8; (focus decide +kernel)) | (apply d_take 9; (focus decide +kernel)) | (apply d_take 10; (focus decide +kernel)) | (apply d_take 11; (focus decide +kernel)) | (apply d_take 12; (focus decide +kernel)) | (apply d_take 13; (focus decide +kernel)) | (apply d_take 14; (focus decide +kernel)) | (apply d_take 15; (focus decide +kernel)) | (apply d_take 16; (focus decide +kernel)) | (apply d_take 17; (focus decide +kernel))); (focus (first | exact qds_FPost | exact qds_RPost | exact qds_YB | assumption)); (focus rfl); (iterate 3 (focus (simp only [go_sem, *, It.av, letters, kindsL, swapP, List.length_append, List.length_cons, List.length_nil]; (try rfl); done))); (focus rfl); (focus (simp only [go_sem, *, It.av, letters, kindsL, swapP, List.length_append, List.length_cons, List.length_nil]; (try rfl); done)); simp only [putA])
                | ((first | (apply d_unw 0; (focus decide +kernel)) | (apply d_unw 1; (focus decide +kernel)) | (apply d_unw 2; (focus decide +kernel)) | (apply d_unw 3; (focus decide +kernel)) | (apply d_unw 4; (focus decide +kernel)) | (apply d_unw 5; (focus decide +kernel)) | (apply d_unw 6; (focus decide +kernel)) | (apply d_unw 7; (focus decide +kernel)) | (apply d_unw 8; (focus decide +kernel)) | (apply d_unw 9; (focus decide +kernel)) | (apply d_unw 10; (focus decide +kernel)) | (apply d_unw 11; (focus decide +kernel)) | (apply d_unw 12; (focus decide +kernel)) | (apply d_unw 13; (focus decide +kernel)) | (apply d_unw 14; (focus decide +kernel)) | (apply d_unw 15; (focus decide +kernel)) | (apply d_unw 16; (focus decide +kernel)) | (apply d_unw 17; (focus decide +kernel))); (focus (first | exact qds_FPost | exact qds_RPost | exact qds_YB | assumption)); (focus rfl); (iterate 2 (focus (simp only [go_sem, *, It.av, letters, kindsL, swapP, List.length_append, List.length_cons, List.length_nil]; (try rfl); done))); (focus rfl); simp only [putA])
                | (first | (apply d_one 0; (focus decide +kernel)) | (apply d_one 1; (focus decide +kernel)) | (apply d_one 2; (focus decide +kernel)) | (apply d_one 3; (focus decide +kernel)) | (apply d_one 4; (focus decide +kernel)) | (apply d_one 5; (focus decide +kernel)) | (apply d_one 6; (focus decide +kernel)) | (apply d_one 7; (focus decide +kernel)) | (apply d_one 8; (focus decide +kernel)) | (apply d_one 9; (focus decide +kernel)) | (apply d_one 10; (focus decide +kernel)) | (apply d_one 11; (focus decide +kernel)) | (apply d_one 12; (focus decide +kernel)) | (apply d_one 13; (focus decide +kernel)) | (apply d_one 14; (focus decide +kernel)) | (apply d_one 15; (focus decide +kernel)) | (apply d_one 16; (focus decide +kernel)) | (apply d_one 17; (focus decide +kernel)))
                | (apply o_step; (iterate 3 (focus (simp only [go_sem, *, It.av, letters, kindsL, swapP, List.length_append, List.length_cons, List.length_nil]; (try rfl); done))); (focus rfl); simp only [putA])
                | (apply o_unw; (iterate 2 (focus (simp only [go_sem, *, It.av, letters, kindsL, swapP, List.length_append, List.length_cons, List.length_nil]; (try rfl); done))); (focus rfl); simp only [putA])
                | apply pr_nil | apply pr_same | apply pr_go | apply pl_nil | apply pl_none | (apply pl_skip; (focus decide +kernel)) | (apply pl_one; (focus (simp only [go_sem, *, It.av, letters, kindsL, swapP, List.length_append, List.length_cons, List.length_nil]; (try rfl); done)))
                | (apply o_call []; (iterate 2 (focus (simp only [go_sem, *, It.av, letters, kindsL, swapP, List.length_append, List.length_cons, List.length_nil]; (try rfl); done))); (focus rfl); (focus (simp only [go_sem, *, It.av, letters, kindsL, swapP, List.length_append, List.length_cons, List.length_nil]; (try rfl); done)); (focus rfl); (iterate 2 (focus (simp only [go_sem, *, It.av, letters, kindsL, swapP, List.length_append, List.length_cons, List.length_nil]; (try rfl); done))); (first | (apply hio) | (apply hqo) | (apply htq) | (apply wsN; (focus (simp only [go_sem, *, It.av, letters, kindsL, swapP, List.length_append, List.length_cons, List.length_nil]; (try rfl); done)))); simp only [afterOp, putA])
              refine x_keep hO 5 [1, 5, 6, 9, 39, 40, 41] rfl (by (simp only [go_sem, *]; try rfl)) (by (simp only [go_sem, *]; try rfl)) (by (simp only [go_sem, *]; try rfl)) ?_
              simp only [List.take_succ_cons, List.take_zero]
              refine HI.out (i + 1) _ _ (by have := Hil.out; omega) ⟨Hil.out, ?_, ?_, ?_, ?_, ?_, ?_, ?_, ?_, ?_, ?_⟩
              · rw [Hsu.out, Hln.out]; have := HBL.out; have := Hial.out; have := Hql.out; simp only [List.length_append, List.length_cons, List.length_nil]; omega
              · (simp only [go_sem, *]; try rfl)
              · (simp only [go_sem, *]; try rfl)
              · (simp only [go_sem, *]; try rfl)
              · (simp only [go_sem, *]; try rfl)
              · (simp only [go_sem, *]; try rfl)
              · (simp only [go_sem, *]; try rfl)
              · (simp only [go_sem, *]; try rfl)
              · (simp only [go_sem, *]; try rfl)
              · rw [Hsu.out, Hln.out]
                simp only [List.length_append, List.length_cons, List.length_nil, Nat.zero_add]
                rfl
          have htx : x.text.length ≤ 4096 ∧ (x.kind = 1 ∨ x.kind = 2 ∨ x.kind = 4) := by
            split at hk
            · next h12 => simp at h12 hk; omega
            · split at hk
              · next h4 => simp at h4 hk; omega
              · split at hk
                · next h3 => simp at h3; exact absurd h3 k3
                · simp at hk
          obtain ⟨q, hqq⟩ : ∃ q, quoteS x.text = q := ⟨_, rfl⟩
          have hql : q.length ≤ 16386 := by rw [← hqq]; have := quoteS_len x.text; omega
          have hqo := fun S' => quote w0 S' x.text (by omega)
          rw [hqq] at hqo
          have hk3 : (x.kind == 3) = false := by simpa using k3
          have hln : lineS x = ia ++ [32] ++ [letter x.kind] ++ [32] ++ q ++ [10] := by unfold lineS; rw [if_neg k3, hia, hqq]
          have Hln := Lib.hid hln
          clear hlt hi hk hxm hl hbs hia hqq w1 w2 hln
          rcases htx.2 with k1 | k1 | k1
          · rw [k1] at Hln
            have Hql := Lib.hid hql
            have a1 : ia.length ≤ 9223372036854775806 := by omega
            have a2 : ia.length ≤ 9223372036854775805 := by omega
            have a3 : ia.length ≤ 9223372036854775804 := by omega
            have Hial := Lib.hid ial
            have a4 : ia.length + 1 + 1 + 1 + q.length ≤ 9223372036854775807 := by omega
            have a5 : ia.length + 1 + 1 + 1 + q.length ≤ 9223372036854775806 := by omega
            have a6 : (bs.length + (ia.length + 1 + 1 + 1 + q.length + 1)) * 1 ≤ 140737488355328 := by have := Hil.out; have := Hl.out; omega
            clear htx hbl hql ial k3
            repeat' first
              | apply x_seq | apply x_skip | apply x_block | apply x_exit | apply x_ret | apply x_ops_nil | apply p_blk | apply p_exit_it | apply p_exit_hit | apply p_ret_it | apply p_ret_blk | apply p_panic_it | apply p_panic_blk | apply p_end
              | (apply p_exit_miss; (focus rfl))
              | (apply x_region; simp only [List.toList_toArray])
              | (apply x_step0; (focus rfl); (focus (simp only [go_sem, *, It.av, letters, kindsL, swapP]; (try rfl); done)); (focus rfl); simp only [putA])
              | (apply x_callA []; (focus (simp only [go_sem, *, It.av, letters, kindsL, swapP]; (try rfl); done)); (focus rfl); (focus (simp only [go_sem, *, It.av, letters, kindsL, swapP]; (try rfl); done)); (focus rfl); (iterate 2 (focus (simp only [go_sem, *, It.av, letters, kindsL, swapP]; (try rfl); done))); (first | (apply hio) | (apply hqo)); simp only [afterCall, putA])
              | (apply x_panic; (focus (simp only [go_sem, *, It.av, letters, kindsL, swapP]; (try rfl); done)); (focus rfl); (focus (simp only [go_sem, *, It.av, letters, kindsL, swapP]; (try rfl); done)))
              | (apply x_step; (iterate 2 (focus (simp only [go_sem, *, It.av, letters, kindsL, swapP]; (try rfl); done))); (focus rfl); simp only [putA])
              | (apply x_unwanted; (focus (simp only [go_sem, *, It.av, letters, kindsL, swapP]; (try rfl); done)); (focus rfl); simp only [putA])
              | (apply x_condT; (focus (simp only [go_sem, *, It.av, letters, kindsL, swapP]; (try rfl); done)))
              | (apply x_condF; (focus (simp only [go_sem, *, It.av, letters, kindsL, swapP]; (try rfl); done)))
              | (apply x_guardS; (focus rfl); (fail_if_success (focus (show _ = some true; (focus (simp only [go_sem, *, It.av, letters, kindsL, swapP]; (try rfl); done))))); (focus (simp only [go_sem, *, It.av, letters, kindsL, swapP]; (try rfl); done)); all_goals (intro hb; try simp only [Bool.not_eq_true', Bool.not_eq_false'] at hb))
              | (apply x_condS; (focus (simp only [go_sem, *, It.av, letters, kindsL, swapP]; (try rfl); done)); all_goals (intro hb; try simp only [Bool.not_eq_true', Bool.not_eq_false'] at hb))
              | (apply d_draw; (focus exact mixed); (focus ((simp only [List.size_toArray, List.length_cons, List.length_nil, Nat.reduceAdd]; try rfl); done)))
              | (apply d_done; (focus decide +kernel))
              | ((first | (apply d_take 0; (focus decide +kernel)) | (apply d_take 1; (focus decide +kernel)) | (apply d_take 2; (focus decide +kernel)) | (apply d_take 3; (focus decide +kernel)) | (apply d_take 4; (focus decide +kernel)) | (apply d_take 5; (focus decide +kernel)) | (apply d_take 6; (focus decide +kernel)) | (apply d_take 7; (focus decide +kernel)) | (apply d_take 8; (focus decide +kernel)) | (apply d_take 9; (focus decide +kernel)) | (apply d_take 10; (focus decide +kernel)) | (apply d_take 11; (focus decide +kernel)) | (apply d_take 12; (focus decide +kernel)) | (apply d_take 13; (focus decide +kernel)) | (apply d_take 14; (focus decide +kernel)) | (apply d_take 15; (focus decide +kernel)) | (apply d_take 16; (focus decide +kernel)) | (apply d_take 17; (focus decide +kernel))); (focus (first | exact qds_FPost | exact qds_RPost | exact qds_YB | assumption)); (focus rfl); (iterate 3 (focus (simp only [go_sem, *, It.av, letters, kindsL, swapP]; (try rfl); done))); (focus rfl); (focus (simp only [go_sem, *, It.av, letters, kindsL, swapP]; (try rfl); done)); simp only [putA])
              | ((first | (apply d_unw 0; (focus decide +kernel)) | (apply d_unw 1; (focus decide +kernel)) | (apply d_unw 2; (focus decide +kernel)) | (apply d_unw 3; (focus decide +kernel)) | (apply d_unw 4; (focus decide +kernel)) | (apply d_unw 5; (focus decide +kernel)) | (apply d_unw 6; (focus decide +kernel)) | (apply d_unw 7; (focus decide +kernel)) | (apply d_unw 8; (focus decide +kernel)) | (apply d_unw 9; (focus decide +kernel)) | (apply d_unw 10; (focus decide +kernel)) | (apply d_unw 11; (focus decide +kernel)) | (apply d_unw 12; (focus decide +kernel)) | (apply d_unw 13; (focus decide +kernel)) | (apply d_unw 14; (focus decide +kernel)) | (apply d_unw 15; (focus decide +kernel)) | (apply d_unw 16; (focus decide +kernel)) | (apply d_unw 17; (focus decide +kernel))); (focus (first | exact qds_FPost | exact qds_RPost | exact qds_YB | assumption)); (focus rfl); (iterate 2 (focus (simp only [go_sem, *, It.av, letters, kindsL, swapP]; (try rfl); done))); (focus rfl); simp only [putA])
              | (first | (apply d_one 0; (focus decide +kernel)) | (apply d_one 1; (focus decide +kernel)) | (apply d_one 2; (focus decide +kernel)) | (apply d_one 3; (focus decide +kernel)) | (apply d_one 4; (focus decide +kernel)) | (apply d_one 5; (focus decide +kernel)) | (apply d_one 6; (focus decide +kernel)) | (apply d_one 7; (focus decide +kernel)) | (apply d_one 8; (focus decide +kernel)) | (apply d_one 9; (focus decide +kernel)) | (apply d_one 10; (focus decide +kernel)) | (apply d_one 11; (focus decide +kernel)) | (apply d_one 12; (focus decide +kernel)) | (apply d_one 13; (focus decide +kernel)) | (apply d_one 14; (focus decide +kernel)) | (apply d_one 15; (focus decide +kernel)) | (apply d_one 16; (focus decide +kernel)) | (apply d_one 17; (focus decide +kernel)))
              | (apply o_step; (iterate 3 (focus (simp only [go_sem, *, It.av, letters, kindsL, swapP]; (try rfl); done))); (focus rfl); simp only [putA])
              | (apply o_unw; (iterate 2 (focus (simp only [go_sem, *, It.av, letters, kindsL, swapP]; (try rfl); done))); (focus rfl); simp only [putA])
              | apply pr_nil | apply pr_same | apply pr_go | apply pl_nil | apply pl_none | (apply pl_skip; (focus decide +kernel)) | (apply pl_one; (focus (simp only [go_sem, *, It.av, letters, kindsL, swapP]; (try rfl); done)))
              | (apply o_call []; (iterate 2 (focus (simp only [go_sem, *, It.av, letters, kindsL, swapP]; (try rfl); done))); (focus rfl); (focus (simp only [go_sem, *, It.av, letters, kindsL, swapP]; (try rfl); done)); (focus rfl); (iterate 2 (focus (simp only [go_sem, *, It.av, letters, kindsL, swapP]; (try rfl); done))); (first | (apply hio) | (apply hqo)); simp only [afterOp, putA])
            apply d_two 2 8
            · decide +kernel
            · repeat' first
                | apply x_seq | apply x_skip | apply x_block | apply x_exit | apply x_ret | apply x_ops_nil | apply p_blk | apply p_exit_it | apply p_exit_hit | apply p_ret_it | apply p_ret_blk | apply p_panic_it | apply p_panic_blk | apply p_end
                | (apply p_exit_miss; (focus rfl))
                | (apply x_region; simp only [List.toList_toArray])
                | (apply x_step0; (focus rfl); (focus (simp only [go_sem, *, It.av, letters, kindsL, swapP, List.length_append, List.length_cons, List.length_nil]; (try rfl); done)); (focus rfl); simp only [putA])
                | (apply x_callA []; (focus (simp only [go_sem, *, It.av, letters, kindsL, swapP, List.length_append, List.length_cons, List.length_nil]; (try rfl); done)); (focus rfl); (focus (simp only [go_sem, *, It.av, letters, kindsL, swapP, List.length_append, List.length_cons, List.length_nil]; (try rfl); done)); (focus rfl); (iterate 2 (focus (simp only [go_sem, *, It.av, letters, kindsL, swapP, List.length_append, List.length_cons, List.length_nil]; (try rfl); done))); (first | (apply hio) | (apply hqo) | (apply wsN; (focus (simp only [go_sem, *, It.av, letters, kindsL, swapP, List.length_append, List.length_cons, List.length_nil]; (try rfl); done)))); simp only [afterCall, putA])
                | (apply x_panic; (focus (simp only [go_sem, *, It.av, letters, kindsL, swapP, List.length_append, List.length_cons, List.length_nil]; (try rfl); done)); (focus rfl); (focus (simp only [go_sem, *, It.av, letters, kindsL, swapP, List.length_append, List.length_cons, List.length_nil]; (try rfl); done)))
                | (apply x_step; (iterate 2 (focus (simp only [go_sem, *, It.av, letters, kindsL, swapP, List.length_append, List.length_cons, List.length_nil]; (try rfl); done))); (focus rfl); simp only [putA])
                | (apply x_unwanted; (focus (simp only [go_sem, *, It.av, letters, kindsL, swapP, List.length_append, List.length_cons, List.length_nil]; (try rfl); done)); (focus rfl); simp only [putA])
                | (apply x_condT; (focus (simp only [go_sem, *, It.av, letters, kindsL, swapP, List.length_append, List.length_cons, List.length_nil]; (try rfl); done)))
                | (apply x_condF; (focus (simp only [go_sem, *, It.av, letters, kindsL, swapP, List.length_append, List.length_cons, List.length_nil]; (try rfl); done)))
                | (apply x_guardS; (focus rfl); (fail_if_success (focus (show _ = some true; (focus (simp only [go_sem, *, It.av, letters, kindsL, swapP, List.length_append, List.length_cons, List.length_nil]; (try rfl); done))))); (focus (simp only [go_sem, *, It.av, letters, kindsL, swapP, List.length_append, List.length_cons, List.length_nil]; (try rfl); done)); all_goals (intro hb; try simp only [Bool.not_eq_true', Bool.not_eq_false'] at hb))
                | (apply x_condS; (focus (simp only [go_sem, *, It.av, letters, kindsL, swapP, List.length_append, List.length_cons, List.length_nil]; (try rfl); done)); all_goals (intro hb; try simp only [Bool.not_eq_true', Bool.not_eq_false'] at hb))
                | (apply d_draw; (focus exact mixed); (focus ((simp only [List.size_toArray, List.length_cons, List.length_nil, Nat.reduceAdd]; try rfl); done)))
                | (apply d_done; (focus decide +kernel))
                | ((first | (apply d_take 0; (focus decide +kernel)) | (apply d_take 1; (focus decide +kernel)) | (apply d_take 2; (focus decide +kernel)) | (apply d_take 3; (focus decide +kernel)) | (apply d_take 4; (focus decide +kernel)) | (apply d_take 5; (focus decide +kernel)) | (apply d_take 6; (focus decide +kernel)) | (apply d_take 7; (focus decide +kernel)) | (apply d_take 8; (focus decide +kernel)) | (apply d_take 9; (focus decide +kernel)) | (apply d_take 10; (focus decide +kernel)) | (apply d_take 11; (focus decide +kernel)) | (apply d_take 12; (focus decide +kernel)) | (apply d_take 13; (focus decide +kernel)) | (apply d_take 14; (focus decide +kernel)) | (apply d_take 15; (focus decide +kernel)) | (apply d_take 16; (focus decide +kernel)) | (apply d_take 17; (focus decide +kernel))); (focus (first | exact qds_FPost | exact qds_RPost | exact qds_YB | assumption)); (focus rfl); (iterate 3 (focus (simp only [go_sem, *, It.av, letters, kindsL, swapP, List.length_append, List.length_cons, List.length_nil]; (try rfl); done))); (focus rfl); (focus (simp only [go_sem, *, It.av, letters, kindsL, swapP, List.length_append, List.length_cons, List.length_nil]; (try rfl); done)); simp only [putA])
                | ((first | (apply d_unw 0; (focus decide +kernel)) | (apply d_unw 1; (focus decide +kernel)) | (apply d_unw 2; (focus decide +kernel)) | (apply d_unw 3; (focus decide +kernel)) | (apply d_unw 4; (focus decide +kernel)) | (apply d_unw 5; (focus decide +kernel)) | (apply d_unw 6; (focus decide +kernel)) | (apply d_unw 7; (focus decide +kernel)) | (apply d_unw 8; (focus decide +kernel)) | (apply d_unw 9; (focus decide +kernel)) | (apply d_unw 10; (focus decide +kernel)) | (apply d_unw 11; (focus decide +kernel)) | (apply d_unw 12; (focus decide +kernel)) | (apply d_unw 13; (focus decide +kernel)) | (apply d_unw 14; (focus decide +kernel)) | (apply d_unw 15; (focus decide +kernel)) | (apply d_unw 16; (focus decide +kernel)) | (apply d_unw 17; (focus decide +kernel))); (focus (first | exact qds_FPost | exact qds_RPost | exact qds_YB | assumption)); (focus rfl); (iterate 2 (focus (simp only [go_sem, *, It.av, letters, kindsL, swapP, List.length_append, List.length_cons, List.length_nil]; (try rfl); done))); (focus rfl); simp only [putA])
                | (first | (apply d_one 0; (focus decide +kernel)) | (apply d_one 1; (focus decide +kernel)) | (apply d_one 2; (focus decide +kernel)) | (apply d_one 3; (focus decide +kernel)) | (apply d_one 4; (focus decide +kernel)) | (apply d_one 5; (focus decide +kernel)) | (apply d_one 6; (focus decide +kernel)) | (apply d_one 7; (focus decide +kernel)) | (apply d_one 8; (focus decide +kernel)) | (apply d_one 9; (focus decide +kernel)) | (apply d_one 10; (focus decide +kernel)) | (apply d_one 11; (focus decide +kernel)) | (apply d_one 12; (focus decide +kernel)) | (apply d_one 13; (focus decide +kernel)) | (apply d_one 14; (focus decide +kernel)) | (apply d_one 15; (focus decide +kernel)) | (apply d_one 16; (focus decide +kernel)) | (apply d_one 17; (focus decide +kernel)))
                | (apply o_step; (iterate 3 (focus (simp only [go_sem, *, It.av, letters, kindsL, swapP, List.length_append, List.length_cons, List.length_nil]; (try rfl); done))); (focus rfl); simp only [putA])
                | (apply o_unw; (iterate 2 (focus (simp only [go_sem, *, It.av, letters, kindsL, swapP, List.length_append, List.length_cons, List.length_nil]; (try rfl); done))); (focus rfl); simp only [putA])
                | apply pr_nil | apply pr_same | apply pr_go | apply pl_nil | apply pl_none | (apply pl_skip; (focus decide +kernel)) | (apply pl_one; (focus (simp only [go_sem, *, It.av, letters, kindsL, swapP, List.length_append, List.length_cons, List.length_nil]; (try rfl); done)))
                | (apply o_call []; (iterate 2 (focus (simp only [go_sem, *, It.av, letters, kindsL, swapP, List.length_append, List.length_cons, List.length_nil]; (try rfl); done))); (focus rfl); (focus (simp only [go_sem, *, It.av, letters, kindsL, swapP, List.length_append, List.length_cons, List.length_nil]; (try rfl); done)); (focus rfl); (iterate 2 (focus (simp only [go_sem, *, It.av, letters, kindsL, swapP, List.length_append, List.length_cons, List.length_nil]; (try rfl); done))); (first | (apply hio) | (apply hqo) | (apply wsN; (focus (simp only [go_sem, *, It.av, letters, kindsL, swapP, List.length_append, List.length_cons, List.length_nil]; (try rfl); done)))); simp only [afterOp, putA])
              refine x_keep hO 5 [1, 5, 6, 9, 39, 40, 41] rfl (by (simp only [go_sem, *]; try rfl)) (by (simp only [go_sem, *]; try rfl)) (by (simp only [go_sem, *]; try rfl)) ?_
              simp only [List.take_succ_cons, List.take_zero]
              refine HI.out (i + 1) _ _ (by have := Hil.out; omega) ⟨Hil.out, ?_, ?_, ?_, ?_, ?_, ?_, ?_, ?_, ?_, ?_⟩
              · rw [Hsu.out, Hln.out]; have := HBL.out; have := Hial.out; have := Hql.out; simp only [List.length_append, List.length_cons, List.length_nil]; omega
              · (simp only [go_sem, *]; try rfl)
              · (simp only [go_sem, *]; try rfl)
              · (simp only [go_sem, *]; try rfl)
              · (simp only [go_sem, *]; try rfl)
              · (simp only [go_sem, *]; try rfl)
              · (simp only [go_sem, *]; try rfl)
              · (simp only [go_sem, *]; try rfl)
              · (simp only [go_sem, *]; try rfl)
              · rw [Hsu.out, Hln.out]
                simp only [List.length_append, List.length_cons, List.length_nil, Nat.zero_add]
                rfl
            · repeat' first
                | apply x_seq | apply x_skip | apply x_block | apply x_exit | apply x_ret | apply x_ops_nil | apply p_blk | apply p_exit_it | apply p_exit_hit | apply p_ret_it | apply p_ret_blk | apply p_panic_it | apply p_panic_blk | apply p_end
                | (apply p_exit_miss; (focus rfl))
                | (apply x_region; simp only [List.toList_toArray])
                | (apply x_step0; (focus rfl); (focus (simp only [go_sem, *, It.av, letters, kindsL, swapP, List.length_append, List.length_cons, List.length_nil]; (try rfl); done)); (focus rfl); simp only [putA])
                | (apply x_callA []; (focus (simp only [go_sem, *, It.av, letters, kindsL, swapP, List.length_append, List.length_cons, List.length_nil]; (try rfl); done)); (focus rfl); (focus (simp only [go_sem, *, It.av, letters, kindsL, swapP, List.length_append, List.length_cons, List.length_nil]; (try rfl); done)); (focus rfl); (iterate 2 (focus (simp only [go_sem, *, It.av, letters, kindsL, swapP, List.length_append, List.length_cons, List.length_nil]; (try rfl); done))); (first | (apply hio) | (apply hqo) | (apply wsN; (focus (simp only [go_sem, *, It.av, letters, kindsL, swapP, List.length_append, List.length_cons, List.length_nil]; (try rfl); done)))); simp only [afterCall, putA])
                | (apply x_panic; (focus (simp only [go_sem, *, It.av, letters, kindsL, swapP, List.length_append, List.length_cons, List.length_nil]; (try rfl); done)); (focus rfl); (focus (simp only [go_sem, *, It.av, letters, kindsL, swapP, List.length_append, List.length_cons, List.length_nil]; (try rfl); done)))
                | (apply x_step; (iterate 2 (focus (simp only [go_sem, *, It.av, letters, kindsL, swapP, List.length_append, List.length_cons, List.length_nil]; (try rfl); done))); (focus rfl); simp only [putA])
                | (apply x_unwanted; (focus (simp only [go_sem, *, It.av, letters, kindsL, swapP, List.length_append, List.length_cons, List.length_nil]; (try rfl); done)); (focus rfl); simp only [putA])
                | (apply x_condT; (focus (simp only [go_sem, *, It.av, letters, kindsL, swapP, List.length_append, List.length_cons, List.length_nil]; (try rfl); done)))
                | (apply x_condF; (focus (simp only [go_sem, *, It.av, letters, kindsL, swapP, List.length_append, List.length_cons, List.length_nil]; (try rfl); done)))
                | (apply x_guardS; (focus rfl); (fail_if_success (focus (show _ = some true; (focus (simp only [go_sem, *, It.av, letters, kindsL, swapP, List.length_append, List.length_cons, List.length_nil]; (try rfl); done))))); (focus (simp only [go_sem, *, It.av, letters, kindsL, swapP, List.length_append, List.length_cons, List.length_nil]; (try rfl); done)); all_goals (intro hb; try simp only [Bool.not_eq_true', Bool.not_eq_false'] at hb))
                | (apply x_condS; (focus (simp only [go_sem, *, It.av, letters, kindsL, swapP, List.length_append, List.length_cons, List.length_nil]; (try rfl); done)); all_goals (intro hb; try simp only [Bool.not_eq_true', Bool.not_eq_false'] at hb))
                | (apply d_draw; (focus exact mixed); (focus ((simp only [List.size_toArray, List.length_cons, List.length_nil, Nat.reduceAdd]; try rfl); done)))
                | (apply d_done; (focus decide +kernel))
                | ((first | (apply d_take 0; (focus decide +kernel)) | (apply d_take 1; (focus decide +kernel)) | (apply d_take 2; (focus decide +kernel)) | (apply d_take 3; (focus decide +kernel)) | (apply d_take 4; (focus decide +kernel)) | (apply d_take 5; (focus decide +kernel)) | (apply d_take 6; (focus decide +kernel)) | (apply d_take 7; (focus decide +kernel)) | (apply d_take 8; (focus decide +kernel)) | (apply d_take 9; (focus decide +kernel)) | (apply d_take 10; (focus decide +kernel)) | (apply d_take 11; (focus decide +kernel)) | (apply d_take 12; (focus decide +kernel)) | (apply d_take 13; (focus decide +kernel)) | (apply d_take 14; (focus decide +kernel)) | (apply d_take 15; (focus decide +kernel)) | (apply d_take 16; (focus decide +kernel)) | (apply d_take 17; (focus decide +kernel))); (focus (first | exact qds_FPost | exact qds_RPost | exact qds_YB | assumption)); (focus rfl); (iterate 3 (focus (simp only [go_sem, *, It.av, letters, kindsL, swapP, List.length_append, List.length_cons, List.length_nil]; (try rfl); done))); (focus rfl); (focus (simp only [go_sem, *, It.av, letters, kindsL, swapP, List.length_append, List.length_cons, List.length_nil]; (try rfl); done)); simp only [putA])
                | ((first | (apply d_unw 0; (focus decide +kernel)) | (apply d_unw 1; (focus decide +kernel)) | (apply d_unw 2; (focus decide +kernel)) | (apply d_unw 3; (focus decide +kernel)) | (apply d_unw 4; (focus decide +kernel)) | (apply d_unw 5; (focus decide +kernel)) | (apply d_unw 6; (focus decide +kernel)) | (apply d_unw 7; (focus decide +kernel)) | (apply d_unw 8; (focus decide +kernel)) | (apply d_unw 9; (focus decide +kernel)) | (apply d_unw 10; (focus decide +kernel)) | (apply d_unw 11; (focus decide +kernel)) | (apply d_unw 12; (focus decide +kernel)) | (apply d_unw 13; (focus decide +kernel)) | (apply d_unw 14; (focus decide +kernel)) | (apply d_unw 15; (focus decide +kernel)) | (apply d_unw 16; (focus decide +kernel)) | (apply d_unw 17; (focus decide +kernel))); (focus (first | exact qds_FPost | exact qds_RPost | exact qds_YB | assumption)); (focus rfl); (iterate 2 (focus (simp only [go_sem, *, It.av, letters, kindsL, swapP, List.length_append, List.length_cons, List.length_nil]; (try rfl); done))); (focus rfl); simp only [putA])
                | (first | (apply d_one 0; (focus decide +kernel)) | (apply d_one 1; (focus decide +kernel)) | (apply d_one 2; (focus decide +kernel)) | (apply d_one 3; (focus decide +kernel)) | (apply d_one 4; (focus decide +kernel)) | (apply d_one 5; (focus decide +kernel)) | (apply d_one 6; (focus decide +kernel)) | (apply d_one 7; (focus decide +kernel)) | (apply d_one 8; (focus decide +kernel)) | (apply d_one 9; (focus decide +kernel)) | (apply d_one 10; (focus decide +kernel)) | (apply d_one 11; (focus decide +kernel)) | (apply d_one 12; (focus decide +kernel)) | (apply d_one 13; (focus decide +kernel)) | (apply d_one 14; (focus decide +kernel)) | (apply d_one 15; (focus decide +kernel)) | (apply d_one 16; (focus decide +kernel)) | (apply d_one 17; (focus decide +kernel)))
                | (apply o_step; (iterate 3 (focus (simp only [go_sem, *, It.av, letters, kindsL, swapP, List.length_append, List.length_cons, List.length_nil]; (try rfl); done))); (focus rfl); simp only [putA])
                | (apply o_unw; (iterate 2 (focus (simp only [go_sem, *, It.av, letters, kindsL, swapP, List.length_append, List.length_cons, List.length_nil]; (try rfl); done))); (focus rfl); simp only [putA])
                | apply pr_nil | apply pr_same | apply pr_go | apply pl_nil | apply pl_none | (apply pl_skip; (focus decide +kernel)) | (apply pl_one; (focus (simp only [go_sem, *, It.av, letters, kindsL, swapP, List.length_append, List.length_cons, List.length_nil]; (try rfl); done)))
                | (apply o_call []; (iterate 2 (focus (simp only [go_sem, *, It.av, letters, kindsL, swapP, List.length_append, List.length_cons, List.length_nil]; (try rfl); done))); (focus rfl); (focus (simp only [go_sem, *, It.av, letters, kindsL, swapP, List.length_append, List.length_cons, List.length_nil]; (try rfl); done)); (focus rfl); (iterate 2 (focus (simp only [go_sem, *, It.av, letters, kindsL, swapP, List.length_append, List.length_cons, List.length_nil]; (try rfl); done))); (first | (apply hio) | (apply hqo) | (apply wsN; (focus (simp only [go_sem, *, It.av, letters, kindsL, swapP, List.length_append, List.length_cons, List.length_nil]; (try rfl); done)))); simp only [afterOp, putA])
              refine x_keep hO 5 [1, 5, 6, 9, 39, 40, 41] rfl (by (simp only [go_sem, *]; try rfl)) (by (simp only [go_sem, *]; try rfl)) (by (simp only [go_sem, *]; try rfl)) ?_
              simp only [List.take_succ_cons, List.take_zero]
              refine HI.out (i + 1) _ _ (by have := Hil.out; omega) ⟨Hil.out, ?_, ?_, ?_, ?_, ?_, ?_, ?_, ?_, ?_, ?_⟩
              · rw [Hsu.out, Hln.out]; have := HBL.out; have := Hial.out; have := Hql.out; simp only [List.length_append, List.length_cons, List.length_nil]; omega
              · (simp only [go_sem, *]; try rfl)
              · (simp only [go_sem, *]; try rfl)
              · (simp only [go_sem, *]; try rfl)
              · (simp only [go_sem, *]; try rfl)
              · (simp only [go_sem, *]; try rfl)
              · (simp only [go_sem, *]; try rfl)
              · (simp only [go_sem, *]; try rfl)
              · (simp only [go_sem, *]; try rfl)
              · rw [Hsu.out, Hln.out]
                simp only [List.length_append, List.length_cons, List.length_nil, Nat.zero_add]
                rfl
          · rw [k1] at Hln
            have Hql := Lib.hid hql
            have a1 : ia.length ≤ 9223372036854775806 := by omega
            have a2 : ia.length ≤ 9223372036854775805 := by omega
            have a3 : ia.length ≤ 9223372036854775804 := by omega
            have Hial := Lib.hid ial
            have a4 : ia.length + 1 + 1 + 1 + q.length ≤ 9223372036854775807 := by omega
            have a5 : ia.length + 1 + 1 + 1 + q.length ≤ 9223372036854775806 := by omega
            have a6 : (bs.length + (ia.length + 1 + 1 + 1 + q.length + 1)) * 1 ≤ 140737488355328 := by have := Hil.out; have := Hl.out; omega
            clear htx hbl hql ial k3
            repeat' first
              | apply x_seq | apply x_skip | apply x_block | apply x_exit | apply x_ret | apply x_ops_nil | apply p_blk | apply p_exit_it | apply p_exit_hit | apply p_ret_it | apply p_ret_blk | apply p_panic_it | apply p_panic_blk | apply p_end
              | (apply p_exit_miss; (focus rfl))
              | (apply x_region; simp only [List.toList_toArray])
              | (apply x_step0; (focus rfl); (focus (simp only [go_sem, *, It.av, letters, kindsL, swapP]; (try rfl); done)); (focus rfl); simp only [putA])
              | (apply x_callA []; (focus (simp only [go_sem, *, It.av, letters, kindsL, swapP]; (try rfl); done)); (focus rfl); (focus (simp only [go_sem, *, It.av, letters, kindsL, swapP]; (try rfl); done)); (focus rfl); (iterate 2 (focus (simp only [go_sem, *, It.av, letters, kindsL, swapP]; (try rfl); done))); (first | (apply hio) | (apply hqo)); simp only [afterCall, putA])
              | (apply x_panic; (focus (simp only [go_sem, *, It.av, letters, kindsL, swapP]; (try rfl); done)); (focus rfl); (focus (simp only [go_sem, *, It.av, letters, kindsL, swapP]; (try rfl); done)))
              | (apply x_step; (iterate 2 (focus (simp only [go_sem, *, It.av, letters, kindsL, swapP]; (try rfl); done))); (focus rfl); simp only [putA])
              | (apply x_unwanted; (focus (simp only [go_sem, *, It.av, letters, kindsL, swapP]; (try rfl); done)); (focus rfl); simp only [putA])
              | (apply x_condT; (focus (simp only [go_sem, *, It.av, letters, kindsL, swapP]; (try rfl); done)))
              | (apply x_condF; (focus (simp only [go_sem, *, It.av, letters, kindsL, swapP]; (try rfl); done)))
              | (apply x_guardS; (focus rfl); (fail_if_success (focus (show _ = some true; (focus (simp only [go_sem, *, It.av, letters, kindsL, swapP]; (try rfl); done))))); (focus (simp only [go_sem, *, It.av, letters, kindsL, swapP]; (try rfl); done)); all_goals (intro hb; try simp only [Bool.not_eq_true', Bool.not_eq_false'] at hb))
              | (apply x_condS; (focus (simp only [go_sem, *, It.av, letters, kindsL, swapP]; (try rfl); done)); all_goals (intro hb; try simp only [Bool.not_eq_true', Bool.not_eq_false'] at hb))
              | (apply d_draw; (focus exact mixed); (focus ((simp only [List.size_toArray, List.length_cons, List.length_nil, Nat.reduceAdd]; try rfl); done)))
              | (apply d_done; (focus decide +kernel))
              | ((first | (apply d_take 0; (focus decide +kernel)) | (apply d_take 1; (focus decide +kernel)) | (apply d_take 2; (focus decide +kernel)) | (apply d_take 3; (focus decide +kernel)) | (apply d_take 4; (focus decide +kernel)) | (apply d_take 5; (focus decide +kernel)) | (apply d_take 6; (focus decide +kernel)) | (apply d_take 7; (focus decide +kernel)) | (apply d_take 8; (focus decide +kernel)) | (apply d_take 9; (focus decide +kernel)) | (apply d_take 10; (focus decide +kernel)) | (apply d_take 11; (focus decide +kernel)) | (apply d_take 12; (focus decide +kernel)) | (apply d_take 13; (focus decide +kernel)) | (apply d_take 14; (focus decide +kernel)) | (apply d_take 15; (focus decide +kernel)) | (apply d_take 16; (focus decide +kernel)) | (apply d_take 17; (focus decide +kernel))); (focus (first | exact qds_FPost | exact qds_RPost | exact qds_YB | assumption)); (focus rfl); (iterate 3 (focus (simp only [go_sem, *, It.av, letters, kindsL, swapP]; (try rfl); done))); (focus rfl); (focus (simp only [go_sem, *, It.av, letters, kindsL, swapP]; (try rfl); done)); simp only [putA])
              | ((first | (apply d_unw 0; (focus decide +kernel)) | (apply d_unw 1; (focus decide +kernel)) | (apply d_unw 2; (focus decide +kernel)) | (apply d_unw 3; (focus decide +kernel)) | (apply d_unw 4; (focus decide +kernel)) | (apply d_unw 5; (focus decide +kernel)) | (apply d_unw 6; (focus decide +kernel)) | (apply d_unw 7; (focus decide +kernel)) | (apply d_unw 8; (focus decide +kernel)) | (apply d_unw 9; (focus decide +kernel)) | (apply d_unw 10; (focus decide +kernel)) | (apply d_unw 11; (focus decide +kernel)) | (apply d_unw 12; (focus decide +kernel)) | (apply d_unw 13; (focus decide +kernel)) | (apply d_unw 14; (focus decide +kernel)) | (apply d_unw 15; (focus decide +kernel)) | (apply d_unw 16; (focus decide +kernel)) | (apply d_unw 17; (focus decide +kernel))); (focus (first | exact qds_FPost | exact qds_RPost | exact qds_YB | assumption)); (focus rfl); (iterate 2 (focus (simp only [go_sem, *, It.av, letters, kindsL, swapP]; (try rfl); done))); (focus rfl); simp only [putA])
              | (first | (apply d_one 0; (focus decide +kernel)) | (apply d_one 1; (focus decide +kernel)) | (apply d_one 2; (focus decide +kernel)) | (apply d_one 3; (focus decide +kernel)) | (apply d_one 4; (focus decide +kernel)) | (apply d_one 5; (focus decide +kernel)) | (apply d_one 6; (focus decide +kernel)) | (apply d_one 7; (focus decide +kernel)) | (apply d_one 8; (focus decide +kernel)) | (apply d_one 9; (focus decide +kernel)) | (apply d_one 10; (focus decide +kernel)) | (apply d_one 11; (focus decide +kernel)) | (apply d_one 12; (focus decide +kernel)) | (apply d_one 13; (focus decide +kernel)) | (apply d_one 14; (focus decide +kernel)) | (apply d_one 15; (focus decide +kernel)) | (apply d_one 16; (focus decide +kernel)) | (apply d_one 17; (focus decide +kernel)))
              | (apply o_step; (iterate 3 (focus (simp only [go_sem, *, It.av, letters, kindsL, swapP]; (try rfl); done))); (focus rfl); simp only [putA])
              | (apply o_unw; (iterate 2 (focus (simp only [go_sem, *, It.av, letters, kindsL, swapP]; (try rfl); done))); (focus rfl); simp only [putA])
              | apply pr_nil | apply pr_same | apply pr_go | apply pl_nil | apply pl_none | (apply pl_skip; (focus decide +kernel)) | (apply pl_one; (focus (simp only [go_sem, *, It.av, letters, kindsL, swapP]; (try rfl); done)))
              | (apply o_call []; (iterate 2 (focus (simp only [go_sem, *, It.av, letters, kindsL, swapP]; (try rfl); done))); (focus rfl); (focus (simp only [go_sem, *, It.av, letters, kindsL, swapP]; (try rfl); done)); (focus rfl); (iterate 2 (focus (simp only [go_sem, *, It.av, letters, kindsL, swapP]; (try rfl); done))); (first | (apply hio) | (apply hqo)); simp only [afterOp, putA])
            apply d_two 2 8
            · decide +kernel
            · repeat' first
                | apply x_seq | apply x_skip | apply x_block | apply x_exit | apply x_ret | apply x_ops_nil | apply p_blk | apply p_exit_it | apply p_exit_hit | apply p_ret_it | apply p_ret_blk | apply p_panic_it | apply p_panic_blk | apply p_end
                | (apply p_exit_miss; (focus rfl))
                | (apply x_region; simp only [List.toList_toArray])
                | (apply x_step0; (focus rfl); (focus (simp only [go_sem, *, It.av, letters, kindsL, swapP, List.length_append, List.length_cons, List.length_nil]; (try rfl); done)); (focus rfl); simp only [putA])
                | (apply x_callA []; (focus (simp only [go_sem, *, It.av, letters, kindsL, swapP, List.length_append, List.length_cons, List.length_nil]; (try rfl); done)); (focus rfl); (focus (simp only [go_sem, *, It.av, letters, kindsL, swapP, List.length_append, List.length_cons, List.length_nil]; (try rfl); done)); (focus rfl); (iterate 2 (focus (simp only [go_sem, *, It.av, letters, kindsL, swapP, List.length_append, List.length_cons, List.length_nil]; (try rfl); done))); (first | (apply hio) | (apply hqo) | (apply wsN; (focus (simp only [go_sem, *, It.av, letters, kindsL, swapP, List.length_append, List.length_cons, List.length_nil]; (try rfl); done)))); simp only [afterCall, putA])
                | (apply x_panic; (focus (simp only [go_sem, *, It.av, letters, kindsL, swapP, List.length_append, List.length_cons, List.length_nil]; (try rfl); done)); (focus rfl); (focus (simp only [go_sem, *, It.av, letters, kindsL, swapP, List.length_append, List.length_cons, List.length_nil]; (try rfl); done)))
                | (apply x_step; (iterate 2 (focus (simp only [go_sem, *, It.av, letters, kindsL, swapP, List.length_append, List.length_cons, List.length_nil]; (try rfl); done))); (focus rfl); simp only [putA])
                | (apply x_unwanted; (focus (simp only [go_sem, *, It.av, letters, kindsL, swapP, List.length_append, List.length_cons, List.length_nil]; (try rfl); done)); (focus rfl); simp only [putA])
                | (apply x_condT; (focus (simp only [go_sem, *, It.av, letters, kindsL, swapP, List.length_append, List.length_cons, List.length_nil]; (try rfl); done)))
                | (apply x_condF; (focus (simp only [go_sem, *, It.av, letters, kindsL, swapP, List.length_append, List.length_cons, List.length_nil]; (try rfl); done)))
                | (apply x_guardS; (focus rfl); (fail_if_success (focus (show _ = some true; (focus (simp only [go_sem, *, It.av, letters, kindsL, swapP, List.length_append, List.length_cons, List.length_nil]; (try rfl); done))))); (focus (simp only [go_sem, *, It.av, letters, kindsL, swapP, List.length_append, List.length_cons, List.length_nil]; (try rfl); done)); all_goals (intro hb; try simp only [Bool.not_eq_true', Bool.not_eq_false'] at hb))
                | (apply x_condS; (focus (simp only [go_sem, *, It.av, letters, kindsL, swapP, List.length_append, List.length_cons, List.length_nil]; (try rfl); done)); all_goals (intro hb; try simp only [Bool.not_eq_true', Bool.not_eq_false'] at hb))
                | (apply d_draw; (focus exact mixed); (focus ((simp only [List.size_toArray, List.length_cons, List.length_nil, Nat.reduceAdd]; try rfl); done)))
                | (apply d_done; (focus decide +kernel))
                | ((first | (apply d_take 0; (focus decide +kernel)) | (apply d_take 1; (focus decide +kernel)) | (apply d_take 2; (focus decide +kernel)) | (apply d_take 3; (focus decide +kernel)) | (apply d_take 4; (focus decide +kernel)) | (apply d_take 5; (focus decide +kernel)) | (apply d_take 6; (focus decide +kernel)) | (apply d_take 7; (focus decide +kernel)) | (apply d_take 8; (focus decide +kernel)) | (apply d_take 9; (focus decide +kernel)) | (apply d_take 10; (focus decide +kernel)) | (apply d_take 11; (focus decide +kernel)) | (apply d_take 12; (focus decide +kernel)) | (apply d_take 13; (focus decide +kernel)) | (apply d_take 14; (focus decide +kernel)) | (apply d_take 15; (focus decide +kernel)) | (apply d_take 16; (focus decide +kernel)) | (apply d_take 17; (focus decide +kernel))); (focus (first | exact qds_FPost | exact qds_RPost | exact qds_YB | assumption)); (focus rfl); (iterate 3 (focus (simp only [go_sem, *, It.av, letters, kindsL, swapP, List.length_append, List.length_cons, List.length_nil]; (try rfl); done))); (focus rfl); (focus (simp only [go_sem, *, It.av, letters, kindsL, swapP, List.length_append, List.length_cons, List.length_nil]; (try rfl); done)); simp only [putA])
                | ((first | (apply d_unw 0; (focus decide +kernel)) | (apply d_unw 1; (focus decide +kernel)) | (apply d_unw 2; (focus decide +kernel)) | (apply d_unw 3; (focus decide +kernel)) | (apply d_unw 4; (focus decide +kernel)) | (apply d_unw 5; (focus decide +kernel)) | (apply d_unw 6; (focus decide +kernel)) | (apply d_unw 7; (focus decide +kernel)) | (apply d_unw 8; (focus decide +kernel)) | (apply d_unw 9; (focus decide +kernel)) | (apply d_unw 10; (focus decide +kernel)) | (apply d_unw 11; (focus decide +kernel)) | (apply d_unw 12; (focus decide +kernel)) | (apply d_unw 13; (focus decide +kernel)) | (apply d_unw 14; (focus decide +kernel)) | (apply d_unw 15; (focus decide +kernel)) | (apply d_unw 16; (focus decide +kernel)) | (apply d_unw 17; (focus decide +kernel))); (focus (first | exact qds_FPost | exact qds_RPost | exact qds_YB | assumption)); (focus rfl); (iterate 2 (focus (simp only [go_sem, *, It.av, letters, kindsL, swapP, List.length_append, List.length_cons, List.length_nil]; (try rfl); done))); (focus rfl); simp only [putA])
                | (first | (apply d_one 0; (focus decide +kernel)) | (apply d_one 1; (focus decide +kernel)) | (apply d_one 2; (focus decide +kernel)) | (apply d_one 3; (focus decide +kernel)) | (apply d_one 4; (focus decide +kernel)) | (apply d_one 5; (focus decide +kernel)) | (apply d_one 6; (focus decide +kernel)) | (apply d_one 7; (focus decide +kernel)) | (apply d_one 8; (focus decide +kernel)) | (apply d_one 9; (focus decide +kernel)) | (apply d_one 10; (focus decide +kernel)) | (apply d_one 11; (focus decide +kernel)) | (apply d_one 12; (focus decide +kernel)) | (apply d_one 13; (focus decide +kernel)) | (apply d_one 14; (focus decide +kernel)) | (apply d_one 15; (focus decide +kernel)) | (apply d_one 16; (focus decide +kernel)) | (apply d_one 17; (focus decide +kernel)))
                | (apply o_step; (iterate 3 (focus (simp only [go_sem, *, It.av, letters, kindsL, swapP, List.length_append, List.length_cons, List.length_nil]; (try rfl); done))); (focus rfl); simp only [putA])
                | (apply o_unw; (iterate 2 (focus (simp only [go_sem, *, It.av, letters, kindsL, swapP, List.length_append, List.length_cons, List.length_nil]; (try rfl); done))); (focus rfl); simp only [putA])
                | apply pr_nil | apply pr_same | apply pr_go | apply pl_nil | apply pl_none | (apply pl_skip; (focus decide +kernel)) | (apply pl_one; (focus (simp only [go_sem, *, It.av, letters, kindsL, swapP, List.length_append, List.length_cons, List.length_nil]; (try rfl); done)))
                | (apply o_call []; (iterate 2 (focus (simp only [go_sem, *, It.av, letters, kindsL, swapP, List.length_append, List.length_cons, List.length_nil]; (try rfl); done))); (focus rfl); (focus (simp only [go_sem, *, It.av, letters, kindsL, swapP, List.length_append, List.length_cons, List.length_nil]; (try rfl); done)); (focus rfl); (iterate 2 (focus (simp only [go_sem, *, It.av, letters, kindsL, swapP, List.length_append, List.length_cons, List.length_nil]; (try rfl); done))); (first | (apply hio) | (apply hqo) | (apply wsN; (focus (simp only [go_sem, *, It.av, letters, kindsL, swapP, List.length_append, List.length_cons, List.length_nil]; (try rfl); done)))); simp only [afterOp, putA])
              refine x_keep hO 5 [1, 5, 6, 9, 39, 40, 41] rfl (by (simp only [go_sem, *]; try rfl)) (by (simp only [go_sem, *]; try rfl)) (by (simp only [go_sem, *]; try rfl)) ?_
              simp only [List.take_succ_cons, List.take_zero]
              refine HI.out (i + 1) _ _ (by have := Hil.out; omega) ⟨Hil.out, ?_, ?_, ?_, ?_, ?_, ?_, ?_, ?_, ?_, ?_⟩
              · rw [Hsu.out, Hln.out]; have := HBL.out; have := Hial.out; have := Hql.out; simp only [List.length_append, List.length_cons, List.length_nil]; omega
              · (simp only [go_sem, *]; try rfl)
              · (simp only [go_sem, *]; try rfl)
              · (simp only [go_sem, *]; try rfl)
              · (simp only [go_sem, *]; try rfl)
              · (simp only [go_sem, *]; try rfl)
              · (simp only [go_sem, *]; try rfl)
              · (simp only [go_sem, *]; try rfl)
              · (simp only [go_sem, *]; try rfl)
              · rw [Hsu.out, Hln.out]
                simp only [List.length_append, List.length_cons, List.length_nil, Nat.zero_add]
                rfl
            · repeat' first
                | apply x_seq | apply x_skip | apply x_block | apply x_exit | apply x_ret | apply x_ops_nil | apply p_blk | apply p_exit_it | apply p_exit_hit | apply p_ret_it | apply p_ret_blk | apply p_panic_it | apply p_panic_blk | apply p_end
                | (apply p_exit_miss; (focus rfl))
                | (apply x_region; simp only [List.toList_toArray])
                | (apply x_step0; (focus rfl); (focus (simp only [go_sem, *, It.av, letters, kindsL, swapP, List.length_append, List.length_cons, List.length_nil]; (try rfl); done)); (focus rfl); simp only [putA])
                | (apply x_callA []; (focus (simp only [go_sem, *, It.av, letters, kindsL, swapP, List.length_append, List.length_cons, List.length_nil]; (try rfl); done)); (focus rfl); (focus (simp only [go_sem, *, It.av, letters, kindsL, swapP, List.length_append, List.length_cons, List.length_nil]; (try rfl); done)); (focus rfl); (iterate 2 (focus (simp only [go_sem, *, It.av, letters, kindsL, swapP, List.length_append, List.length_cons, List.length_nil]; (try rfl); done))); (first | (apply hio) | (apply hqo) | (apply wsN; (focus (simp only [go_sem, *, It.av, letters, kindsL, swapP, List.length_append, List.length_cons, List.length_nil]; (try rfl); done)))); simp only [afterCall, putA])
                | (apply x_panic; (focus (simp only [go_sem, *, It.av, letters, kindsL, swapP, List.length_append, List.length_cons, List.length_nil]; (try rfl); done)); (focus rfl); (focus (simp only [go_sem, *, It.av, letters, kindsL, swapP, List.length_append, List.length_cons, List.length_nil]; (try rfl); done)))
                | (apply x_step; (iterate 2 (focus (simp only [go_sem, *, It.av, letters, kindsL, swapP, List.length_append, List.length_cons, List.length_nil]; (try rfl); done))); (focus rfl); simp only [putA])
                | (apply x_unwanted; (focus (simp only [go_sem, *, It.av, letters, kindsL, swapP, List.length_append, List.length_cons, List.length_nil]; (try rfl); done)); (focus rfl); simp only [putA])
                | (apply x_condT; (focus (simp only [go_sem, *, It.av, letters, kindsL, swapP, List.length_append, List.length_cons, List.length_nil]; (try rfl); done)))
                | (apply x_condF; (focus (simp only [go_sem, *, It.av, letters, kindsL, swapP, List.length_append, List.length_cons, List.length_nil]; (try rfl); done)))
                | (apply x_guardS; (focus rfl); (fail_if_success (focus (show _ = some true; (focus (simp only [go_sem, *, It.av, letters, kindsL, swapP, List.length_append, List.length_cons, List.length_nil]; (try rfl); done))))); (focus (simp only [go_sem, *, It.av, letters, kindsL, swapP, List.length_append, List.length_cons, List.length_nil]; (try rfl); done)); all_goals (intro hb; try simp only [Bool.not_eq_true', Bool.not_eq_false'] at hb))
                | (apply x_condS; (focus (simp only [go_sem, *, It.av, letters, kindsL, swapP, List.length_append, List.length_cons, List.length_nil]; (try rfl); done)); all_goals (intro hb; try simp only [Bool.not_eq_true', Bool.not_eq_false'] at hb))
                | (apply d_draw; (focus exact mixed); (focus ((simp only [List.size_toArray, List.length_cons, List.length_nil, Nat.reduceAdd]; try rfl); done)))
                | (apply d_done; (focus decide +kernel))
                | ((first | (apply d_take 0; (focus decide +kernel)) | (apply d_take 1; (focus decide +kernel)) | (apply d_take 2; (focus decide +kernel)) | (apply d_take 3; (focus decide +kernel)) | (apply d_take 4; (focus decide +kernel)) | (apply d_take 5; (focus decide +kernel)) | (apply d_take 6; (focus decide +kernel)) | (apply d_take 7; (focus decide +kernel)) | (apply d_take 8; (focus decide +kernel)) | (apply d_take 9; (focus decide +kernel)) | (apply d_take 10; (focus decide +kernel)) | (apply d_take 11; (focus decide +kernel)) | (apply d_take 12; (focus decide +kernel)) | (apply d_take 13; (focus decide +kernel)) | (apply d_take 14; (focus decide +kernel)) | (apply d_take 15; (focus decide +kernel)) | (apply d_take 16; (focus decide +kernel)) | (apply d_take 17; (focus decide +kernel))); (focus (first | exact qds_FPost | exact qds_RPost | exact qds_YB | assumption)); (focus rfl); (iterate 3 (focus (simp only [go_sem, *, It.av, letters, kindsL, swapP, List.length_append, List.length_cons, List.length_nil]; (try rfl); done))); (focus rfl); (focus (simp only [go_sem, *, It.av, letters, kindsL, swapP, List.length_append, List.length_cons, List.length_nil]; (try rfl); done)); simp only [putA])
                | ((first | (apply d_unw 0; (focus decide +kernel)) | (apply d_unw 1; (focus decide +kernel)) | (apply d_unw 2; (focus decide +kernel)) | (apply d_unw 3; (focus decide +kernel)) | (apply d_unw 4; (focus decide +kernel)) | (apply d_unw 5; (focus decide +kernel)) | (apply d_unw 6; (focus decide +kernel)) | (apply d_unw 7; (focus decide +kernel)) | (apply d_unw 8; (focus decide +kernel)) | (apply d_unw 9; (focus decide +kernel)) | (apply d_unw 10; (focus decide +kernel)) | (apply d_unw 11; (focus decide +kernel)) | (apply d_unw 12; (focus decide +kernel)) | (apply d_unw 13; (focus decide +kernel)) | (apply d_unw 14; (focus decide +kernel)) | (apply d_unw 15; (focus decide +kernel)) | (apply d_unw 16; (focus decide +kernel)) | (apply d_unw 17; (focus decide +kernel))); (focus (first | exact qds_FPost | exact qds_RPost | exact qds_YB | assumption)); (focus rfl); (iterate 2 (focus (simp only [go_sem, *, It.av, letters, kindsL, swapP, List.length_append, List.length_cons, List.length_nil]; (try rfl); done))); (focus rfl); simp only [putA])
                | (first | (apply d_one 0; (focus decide +kernel)) | (apply d_one 1; (focus decide +kernel)) | (apply d_one 2; (focus decide +kernel)) | (apply d_one 3; (focus decide +kernel)) | (apply d_one 4; (focus decide +kernel)) | (apply d_one 5; (focus decide +kernel)) | (apply d_one 6; (focus decide +kernel)) | (apply d_one 7; (focus decide +kernel)) | (apply d_one 8; (focus decide +kernel)) | (apply d_one 9; (focus decide +kernel)) | (apply d_one 10; (focus decide +kernel)) | (apply d_one 11; (focus decide +kernel)) | (apply d_one 12; (focus decide +kernel)) | (apply d_one 13; (focus decide +kernel)) | (apply d_one 14; (focus decide +kernel)) | (apply d_one 15; (focus decide +kernel)) | (apply d_one 16; (focus decide +kernel)) | (apply d_one 17; (focus decide +kernel)))
                | (apply o_step; (iterate 3 (focus (simp only [go_sem, *, It.av, letters, kindsL, swapP, List.length_append, List.length_cons, List.length_nil]; (try rfl); done))); (focus rfl); simp only [putA])
                | (apply o_unw; (iterate 2 (focus (simp only [go_sem, *, It.av, letters, kindsL, swapP, List.length_append, List.length_cons, List.length_nil]; (try rfl); done))); (focus rfl); simp only [putA])
                | apply pr_nil | apply pr_same | apply pr_go | apply pl_nil | apply pl_none | (apply pl_skip; (focus decide +kernel)) | (apply pl_one; (focus (simp only [go_sem, *, It.av, letters, kindsL, swapP, List.length_append, List.length_cons, List.length_nil]; (try rfl); done)))
                | (apply o_call []; (iterate 2 (focus (simp only [go_sem, *, It.av, letters, kindsL, swapP, List.length_append, List.length_cons, List.length_nil]; (try rfl); done))); (focus rfl); (focus (simp only [go_sem, *, It.av, letters, kindsL, swapP, List.length_append, List.length_cons, List.length_nil]; (try rfl); done)); (focus rfl); (iterate 2 (focus (simp only [go_sem, *, It.av, letters, kindsL, swapP, List.length_append, List.length_cons, List.length_nil]; (try rfl); done))); (first | (apply hio) | (apply hqo) | (apply wsN; (focus (simp only [go_sem, *, It.av, letters, kindsL, swapP, List.length_append, List.length_cons, List.length_nil]; (try rfl); done)))); simp only [afterOp, putA])
              refine x_keep hO 5 [1, 5, 6, 9, 39, 40, 41] rfl (by (simp only [go_sem, *]; try rfl)) (by (simp only [go_sem, *]; try rfl)) (by (simp only [go_sem, *]; try rfl)) ?_
              simp only [List.take_succ_cons, List.take_zero]
              refine HI.out (i + 1) _ _ (by have := Hil.out; omega) ⟨Hil.out, ?_, ?_, ?_, ?_, ?_, ?_, ?_, ?_, ?_, ?_⟩
              · rw [Hsu.out, Hln.out]; have := HBL.out; have := Hial.out; have := Hql.out; simp only [List.length_append, List.length_cons, List.length_nil]; omega
              · (simp only [go_sem, *]; try rfl)
              · (simp only [go_sem, *]; try rfl)
              · (simp only [go_sem, *]; try rfl)
              · (simp only [go_sem, *]; try rfl)
              · (simp only [go_sem, *]; try rfl)
              · (simp only [go_sem, *]; try rfl)
              · (simp only [go_sem, *]; try rfl)
              · (simp only [go_sem, *]; try rfl)
              · rw [Hsu.out, Hln.out]
                simp only [List.length_append, List.length_cons, List.length_nil, Nat.zero_add]
                rfl
          · rw [k1] at Hln
            have Hql := Lib.hid hql
            have a1 : ia.length ≤ 9223372036854775806 := by omega
            have a2 : ia.length ≤ 9223372036854775805 := by omega
            have a3 : ia.length ≤ 9223372036854775804 := by omega
            have Hial := Lib.hid ial
            have a4 : ia.length + 1 + 1 + 1 + q.length ≤ 9223372036854775807 := by omega
            have a5 : ia.length + 1 + 1 + 1 + q.length ≤ 9223372036854775806 := by omega
            have a6 : (bs.length + (ia.length + 1 + 1 + 1 + q.length + 1)) * 1 ≤ 140737488355328 := by have := Hil.out; have := Hl.out; omega
            clear htx hbl hql ial k3
            repeat' first
              | apply x_seq | apply x_skip | apply x_block | apply x_exit | apply x_ret | apply x_ops_nil | apply p_blk | apply p_exit_it | apply p_exit_hit | apply p_ret_it | apply p_ret_blk | apply p_panic_it | apply p_panic_blk | apply p_end
              | (apply p_exit_miss; (focus rfl))
              | (apply x_region; simp only [List.toList_toArray])
              | (apply x_step0; (focus rfl); (focus (simp only [go_sem, *, It.av, letters, kindsL, swapP]; (try rfl); done)); (focus rfl); simp only [putA])
              | (apply x_callA []; (focus (simp only [go_sem, *, It.av, letters, kindsL, swapP]; (try rfl); done)); (focus rfl); (focus (simp only [go_sem, *, It.av, letters, kindsL, swapP]; (try rfl); done)); (focus rfl); (iterate 2 (focus (simp only [go_sem, *, It.av, letters, kindsL, swapP]; (try rfl); done))); (first | (apply hio) | (apply hqo)); simp only [afterCall, putA])
              | (apply x_panic; (focus (simp only [go_sem, *, It.av, letters, kindsL, swapP]; (try rfl); done)); (focus rfl); (focus (simp only [go_sem, *, It.av, letters, kindsL, swapP]; (try rfl); done)))
              | (apply x_step; (iterate 2 (focus (simp only [go_sem, *, It.av, letters, kindsL, swapP]; (try rfl); done))); (focus rfl); simp only [putA])
              | (apply x_unwanted; (focus (simp only [go_sem, *, It.av, letters, kindsL, swapP]; (try rfl); done)); (focus rfl); simp only [putA])
              | (apply x_condT; (focus (simp only [go_sem, *, It.av, letters, kindsL, swapP]; (try rfl); done)))
              | (apply x_condF; (focus (simp only [go_sem, *, It.av, letters, kindsL, swapP]; (try rfl); done)))
              | (apply x_guardS; (focus rfl); (fail_if_success (focus (show _ = some true; (focus (simp only [go_sem, *, It.av, letters, kindsL, swapP]; (try rfl); done))))); (focus (simp only [go_sem, *, It.av, letters, kindsL, swapP]; (try rfl); done)); all_goals (intro hb; try simp only [Bool.not_eq_true', Bool.not_eq_false'] at hb))
              | (apply x_condS; (focus (simp only [go_sem, *, It.av, letters, kindsL, swapP]; (try rfl); done)); all_goals (intro hb; try simp only [Bool.not_eq_true', Bool.not_eq_false'] at hb))
              | (apply d_draw; (focus exact mixed); (focus ((simp only [List.size_toArray, List.length_cons, List.length_nil, Nat.reduceAdd]; try rfl); done)))
              | (apply d_done; (focus decide +kernel))
              | ((first | (apply d_take 0; (focus decide +kernel)) | (apply d_take 1; (focus decide +kernel)) | (apply d_take 2; (focus decide +kernel)) | (apply d_take 3; (focus decide +kernel)) | (apply d_take 4; (focus decide +kernel)) | (apply d_take 5; (focus decide +kernel)) | (apply d_take 6; (focus decide +kernel)) | (apply d_take 7; (focus decide +kernel)) | (apply d_take 8; (focus decide +kernel)) | (apply d_take 9; (focus decide +kernel)) | (apply d_take 10; (focus decide +kernel)) | (apply d_take 11; (focus decide +kernel)) | (apply d_take 12; (focus decide +kernel)) | (apply d_take 13; (focus decide +kernel)) | (apply d_take 14; (focus decide +kernel)) | (apply d_take 15; (focus decide +kernel)) | (apply d_take 16; (focus decide +kernel)) | (apply d_take 17; (focus decide +kernel))); (focus (first | exact qds_FPost | exact qds_RPost | exact qds_YB | assumption)); (focus rfl); (iterate 3 (focus (simp only [go_sem, *, It.av, letters, kindsL, swapP]; (try rfl); done))); (focus rfl); (focus (simp only [go_sem, *, It.av, letters, kindsL, swapP]; (try rfl); done)); simp only [putA])
              | ((first | (apply d_unw 0; (focus decide +kernel)) | (apply d_unw 1; (focus decide +kernel)) | (apply d_unw 2; (focus decide +kernel)) | (apply d_unw 3; (focus decide +kernel)) | (apply d_unw 4; (focus decide +kernel)) | (apply d_unw 5; (focus decide +kernel)) | (apply d_unw 6; (focus decide +kernel)) | (apply d_unw 7; (focus decide +kernel)) | (apply d_unw 8; (focus decide +kernel)) | (apply d_unw 9; (focus decide +kernel)) | (apply d_unw 10; (focus decide +kernel)) | (apply d_unw 11; (focus decide +kernel)) | (apply d_unw 12; (focus decide +kernel)) | (apply d_unw 13; (focus decide +kernel)) | (apply d_unw 14; (focus decide +kernel)) | (apply d_unw 15; (focus decide +kernel)) | (apply d_unw 16; (focus decide +kernel)) | (apply d_unw 17; (focus decide +kernel))); (focus (first | exact qds_FPost | exact qds_RPost | exact qds_YB | assumption)); (focus rfl); (iterate 2 (focus (simp only [go_sem, *, It.av, letters, kindsL, swapP]; (try rfl); done))); (focus rfl); simp only [putA])
              | (first | (apply d_one 0; (focus decide +kernel)) | (apply d_one 1; (focus decide +kernel)) | (apply d_one 2; (focus decide +kernel)) | (apply d_one 3; (focus decide +kernel)) | (apply d_one 4; (focus decide +kernel)) | (apply d_one 5; (focus decide +kernel)) | (apply d_one 6; (focus decide +kernel)) | (apply d_one 7; (focus decide +kernel)) | (apply d_one 8; (focus decide +kernel)) | (apply d_one 9; (focus decide +kernel)) | (apply d_one 10; (focus decide +kernel)) | (apply d_one 11; (focus decide +kernel)) | (apply d_one 12; (focus decide +kernel)) | (apply d_one 13; (focus decide +kernel)) | (apply d_one 14; (focus decide +kernel)) | (apply d_one 15; (focus decide +kernel)) | (apply d_one 16; (focus decide +kernel)) | (apply d_one 17; (focus decide +kernel)))
              | (apply o_step; (iterate 3 (focus (simp only [go_sem, *, It.av, letters, kindsL, swapP]; (try rfl); done))); (focus rfl); simp only [putA])
              | (apply o_unw; (iterate 2 (focus (simp only [go_sem, *, It.av, letters, kindsL, swapP]; (try rfl); done))); (focus rfl); simp only [putA])
              | apply pr_nil | apply pr_same | apply pr_go | apply pl_nil | apply pl_none | (apply pl_skip; (focus decide +kernel)) | (apply pl_one; (focus (simp only [go_sem, *, It.av, letters, kindsL, swapP]; (try rfl); done)))
              | (apply o_call []; (iterate 2 (focus (simp only [go_sem, *, It.av, letters, kindsL, swapP]; (try rfl); done))); (focus rfl); (focus (simp only [go_sem, *, It.av, letters, kindsL, swapP]; (try rfl); done)); (focus rfl); (iterate 2 (focus (simp only [go_sem, *, It.av, letters, kindsL, swapP]; (try rfl); done))); (first | (apply hio) | (apply hqo)); simp only [afterOp, putA])
            apply d_two 2 8
            · decide +kernel
            · repeat' first
                | apply x_seq | apply x_skip | apply x_block | apply x_exit | apply x_ret | apply x_ops_nil | apply p_blk | apply p_exit_it | apply p_exit_hit | apply p_ret_it | apply p_ret_blk | apply p_panic_it | apply p_panic_blk | apply p_end
                | (apply p_exit_miss; (focus rfl))
                | (apply x_region; simp only [List.toList_toArray])
                | (apply x_step0; (focus rfl); (focus (simp only [go_sem, *, It.av, letters, kindsL, swapP, List.length_append, List.length_cons, List.length_nil]; (try rfl); done)); (focus rfl); simp only [putA])
                | (apply x_callA []; (focus (simp only [go_sem, *, It.av, letters, kindsL, swapP, List.length_append, List.length_cons, List.length_nil]; (try rfl); done)); (focus rfl); (focus (simp only [go_sem, *, It.av, letters, kindsL, swapP, List.length_append, List.length_cons, List.length_nil]; (try rfl); done)); (focus rfl); (iterate 2 (focus (simp only [go_sem, *, It.av, letters, kindsL, swapP, List.length_append, List.length_cons, List.length_nil]; (try rfl); done))); (first | (apply hio) | (apply hqo) | (apply wsN; (focus (simp only [go_sem, *, It.av, letters, kindsL, swapP, List.length_append, List.length_cons, List.length_nil]; (try rfl); done)))); simp only [afterCall, putA])
                | (apply x_panic; (focus (simp only [go_sem, *, It.av, letters, kindsL, swapP, List.length_append, List.length_cons, List.length_nil]; (try rfl); done)); (focus rfl); (focus (simp only [go_sem, *, It.av, letters, kindsL, swapP, List.length_append, List.length_cons, List.length_nil]; (try rfl); done)))
                | (apply x_step; (iterate 2 (focus (simp only [go_sem, *, It.av, letters, kindsL, swapP, List.length_append, List.length_cons, List.length_nil]; (try rfl); done))); (focus rfl); simp only [putA])
                | (apply x_unwanted; (focus (simp only [go_sem, *, It.av, letters, kindsL, swapP, List.length_append, List.length_cons, List.length_nil]; (try rfl); done)); (focus rfl); simp only [putA])
                | (apply x_condT; (focus (simp only [go_sem, *, It.av, letters, kindsL, swapP, List.length_append, List.length_cons, List.length_nil]; (try rfl); done)))
                | (apply x_condF; (focus (simp only [go_sem, *, It.av, letters, kindsL, swapP, List.length_append, List.length_cons, List.length_nil]; (try rfl); done)))
                | (apply x_guardS; (focus rfl); (fail_if_success (focus (show _ = some true; (focus (simp only [go_sem, *, It.av, letters, kindsL, swapP, List.length_append, List.length_cons, List.length_nil]; (try rfl); done))))); (focus (simp only [go_sem, *, It.av, letters, kindsL, swapP, List.length_append, List.length_cons, List.length_nil]; (try rfl); done)); all_goals (intro hb; try simp only [Bool.not_eq_true', Bool.not_eq_false'] at hb))
                | (apply x_condS; (focus (simp only [go_sem, *, It.av, letters, kindsL, swapP, List.length_append, List.length_cons, List.length_nil]; (try rfl); done)); all_goals (intro hb; try simp only [Bool.not_eq_true', Bool.not_eq_false'] at hb))
                | (apply d_draw; (focus exact mixed); (focus ((simp only [List.size_toArray, List.length_cons, List.length_nil, Nat.reduceAdd]; try rfl); done)))
                | (apply d_done; (focus decide +kernel))
                | ((first | (apply d_take 0; (focus decide +kernel)) | (apply d_take 1; (focus decide +kernel)) | (apply d_take 2; (focus decide +kernel)) | (apply d_take 3; (focus decide +kernel)) | (apply d_take 4; (focus decide +kernel)) | (apply d_take 5; (focus decide +kernel)) | (apply d_take 6; (focus decide +kernel)) | (apply d_take 7; (focus decide +kernel)) | (apply d_take 8; (focus decide +kernel)) | (apply d_take 9; (focus decide +kernel)) | (apply d_take 10; (focus decide +kernel)) | (apply d_take 11; (focus decide +kernel)) | (apply d_take 12; (focus decide +kernel)) | (apply d_take 13; (focus decide +kernel)) | (apply d_take 14; (focus decide +kernel)) | (apply d_take 15; (focus decide +kernel)) | (apply d_take 16; (focus decide +kernel)) | (apply d_take 17; (focus decide +kernel))); (focus (first | exact qds_FPost | exact qds_RPost | exact qds_YB | assumption)); (focus rfl); (iterate 3 (focus (simp only [go_sem, *, It.av, letters, kindsL, swapP, List.length_append, List.length_cons, List.length_nil]; (try rfl); done))); (focus rfl); (focus (simp only [go_sem, *, It.av, letters, kindsL, swapP, List.length_append, List.length_cons, List.length_nil]; (try rfl); done)); simp only [putA])
                | ((first | (apply d_unw 0; (focus decide +kernel)) | (apply d_unw 1; (focus decide +kernel)) | (apply d_unw 2; (focus decide +kernel)) | (apply d_unw 3; (focus decide +kernel)) | (apply d_unw 4; (focus decide +kernel)) | (apply d_unw 5; (focus decide +kernel)) | (apply d_unw 6; (focus decide +kernel)) | (apply d_unw 7; (focus decide +kernel)) | (apply d_unw 8; (focus decide +kernel)) | (apply d_unw 9; (focus decide +kernel)) | (apply d_unw 10; (focus decide +kernel)) | (apply d_unw 11; (focus decide +kernel)) | (apply d_unw 12; (focus decide +kernel)) | (apply d_unw 13; (focus decide +kernel)) | (apply d_unw 14; (focus decide +kernel)) | (apply d_unw 15; (focus decide +kernel)) | (apply d_unw 16; (focus decide +kernel)) | (apply d_unw 17; (focus decide +kernel))); (focus (first | exact qds_FPost | exact qds_RPost | exact qds_YB | assumption)); (focus rfl); (iterate 2 (focus (simp only [go_sem, *, It.av, letters, kindsL, swapP, List.length_append, List.length_cons, List.length_nil]; (try rfl); done))); (focus rfl); simp only [putA])
                | (first | (apply d_one 0; (focus decide +kernel)) | (apply d_one 1; (focus decide +kernel)) | (apply d_one 2; (focus decide +kernel)) | (apply d_one 3; (focus decide +kernel)) | (apply d_one 4; (focus decide +kernel)) | (apply d_one 5; (focus decide +kernel)) | (apply d_one 6; (focus decide +kernel)) | (apply d_one 7; (focus decide +kernel)) | (apply d_one 8; (focus decide +kernel)) | (apply d_one 9; (focus decide +kernel)) | (apply d_one 10; (focus decide +kernel)) | (apply d_one 11; (focus decide +kernel)) | (apply d_one 12; (focus decide +kernel)) | (apply d_one 13; (focus decide +kernel)) | (apply d_one 14; (focus decide +kernel)) | (apply d_one 15; (focus decide +kernel)) | (apply d_one 16; (focus decide +kernel)) | (apply d_one 17; (focus decide +kernel)))
                | (apply o_step; (iterate 3 (focus (simp only [go_sem, *, It.av, letters, kindsL, swapP, List.length_append, List.length_cons, List.length_nil]; (try rfl); done))); (focus rfl); simp only [putA])
                | (apply o_unw; (iterate 2 (focus (simp only [go_sem, *, It.av, letters, kindsL, swapP, List.length_append, List.length_cons, List.length_nil]; (try rfl); done))); (focus rfl); simp only [putA])
                | apply pr_nil | apply pr_same | apply pr_go | apply pl_nil | apply pl_none | (apply pl_skip; (focus decide +kernel)) | (apply pl_one; (focus (simp only [go_sem, *, It.av, letters, kindsL, swapP, List.length_append, List.length_cons, List.length_nil]; (try rfl); done)))
                | (apply o_call []; (iterate 2 (focus (simp only [go_sem, *, It.av, letters, kindsL, swapP, List.length_append, List.length_cons, List.length_nil]; (try rfl); done))); (focus rfl); (focus (simp only [go_sem, *, It.av, letters, kindsL, swapP, List.length_append, List.length_cons, List.length_nil]; (try rfl); done)); (focus rfl); (iterate 2 (focus (simp only [go_sem, *, It.av, letters, kindsL, swapP, List.length_append, List.length_cons, List.length_nil]; (try rfl); done))); (first | (apply hio) | (apply hqo) | (apply wsN; (focus (simp only [go_sem, *, It.av, letters, kindsL, swapP, List.length_append, List.length_cons, List.length_nil]; (try rfl); done)))); simp only [afterOp, putA])
              refine x_keep hO 5 [1, 5, 6, 9, 39, 40, 41] rfl (by (simp only [go_sem, *]; try rfl)) (by (simp only [go_sem, *]; try rfl)) (by (simp only [go_sem, *]; try rfl)) ?_
              simp only [List.take_succ_cons, List.take_zero]
              refine HI.out (i + 1) _ _ (by have := Hil.out; omega) ⟨Hil.out, ?_, ?_, ?_, ?_, ?_, ?_, ?_, ?_, ?_, ?_⟩
              · rw [Hsu.out, Hln.out]; have := HBL.out; have := Hial.out; have := Hql.out; simp only [List.length_append, List.length_cons, List.length_nil]; omega
              · (simp only [go_sem, *]; try rfl)
              · (simp only [go_sem, *]; try rfl)
              · (simp only [go_sem, *]; try rfl)
              · (simp only [go_sem, *]; try rfl)
              · (simp only [go_sem, *]; try rfl)
              · (simp only [go_sem, *]; try rfl)
              · (simp only [go_sem, *]; try rfl)
              · (simp only [go_sem, *]; try rfl)
              · rw [Hsu.out, Hln.out]
                simp only [List.length_append, List.length_cons, List.length_nil, Nat.zero_add]
                rfl
            · repeat' first
                | apply x_seq | apply x_skip | apply x_block | apply x_exit | apply x_ret | apply x_ops_nil | apply p_blk | apply p_exit_it | apply p_exit_hit | apply p_ret_it | apply p_ret_blk | apply p_panic_it | apply p_panic_blk | apply p_end
                | (apply p_exit_miss; (focus rfl))
                | (apply x_region; simp only [List.toList_toArray])
                | (apply x_step0; (focus rfl); (focus (simp only [go_sem, *, It.av, letters, kindsL, swapP, List.length_append, List.length_cons, List.length_nil]; (try rfl); done)); (focus rfl); simp only [putA])
                | (apply x_callA []; (focus (simp only [go_sem, *, It.av, letters, kindsL, swapP, List.length_append, List.length_cons, List.length_nil]; (try rfl); done)); (focus rfl); (focus (simp only [go_sem, *, It.av, letters, kindsL, swapP, List.length_append, List.length_cons, List.length_nil]; (try rfl); done)); (focus rfl); (iterate 2 (focus (simp only [go_sem, *, It.av, letters, kindsL, swapP, List.length_append, List.length_cons, List.length_nil]; (try rfl); done))); (first | (apply hio) | (apply hqo) | (apply wsN; (focus (simp only [go_sem, *, It.av, letters, kindsL, swapP, List.length_append, List.length_cons, List.length_nil]; (try rfl); done)))); simp only [afterCall, putA])
                | (apply x_panic; (focus (simp only [go_sem, *, It.av, letters, kindsL, swapP, List.length_append, List.length_cons, List.length_nil]; (try rfl); done)); (focus rfl); (focus (simp only [go_sem, *, It.av, letters, kindsL, swapP, List.length_append, List.length_cons, List.length_nil]; (try rfl); done)))
                | (apply x_step; (iterate 2 (focus (simp only [go_sem, *, It.av, letters, kindsL, swapP, List.length_append, List.length_cons, List.length_nil]; (try rfl); done))); (focus rfl); simp only [putA])
                | (apply x_unwanted; (focus (simp only [go_sem, *, It.av, letters, kindsL, swapP, List.length_append, List.length_cons, List.length_nil]; (try rfl); done)); (focus rfl); simp only [putA])
                | (apply x_condT; (focus (simp only [go_sem, *, It.av, letters, kindsL, swapP, List.length_append, List.length_cons, List.length_nil]; (try rfl); done)))
                | (apply x_condF; (focus (simp only [go_sem, *, It.av, letters, kindsL, swapP, List.length_append, List.length_cons, List.length_nil]; (try rfl); done)))
                | (apply x_guardS; (focus rfl); (fail_if_success (focus (show _ = some true; (focus (simp only [go_sem, *, It.av, letters, kindsL, swapP, List.length_append, List.length_cons, List.length_nil]; (try rfl); done))))); (focus (simp only [go_sem, *, It.av, letters, kindsL, swapP, List.length_append, List.length_cons, List.length_nil]; (try rfl); done)); all_goals (intro hb; try simp only [Bool.not_eq_true', Bool.not_eq_false'] at hb))
                | (apply x_condS; (focus (simp only [go_sem, *, It.av, letters, kindsL, swapP, List.length_append, List.length_cons, List.length_nil]; (try rfl); done)); all_goals (intro hb; try simp only [Bool.not_eq_true', Bool.not_eq_false'] at hb))
                | (apply d_draw; (focus exact mixed); (focus ((simp only [List.size_toArray, List.length_cons, List.length_nil, Nat.reduceAdd]; try rfl); done)))
                | (apply d_done; (focus decide +kernel))
                | ((first | (apply d_take 0; (focus decide +kernel)) | (apply d_take 1; (focus decide +kernel)) | (apply d_take 2; (focus decide +kernel)) | (apply d_take 3; (focus decide +kernel)) | (apply d_take 4; (focus decide +kernel)) | (apply d_take 5; (focus decide +kernel)) | (apply d_take 6; (focus decide +kernel)) | (apply d_take 7; (focus decide +kernel)) | (apply d_take 8; (focus decide +kernel)) | (apply d_take 9; (focus decide +kernel)) | (apply d_take 10; (focus decide +kernel)) | (apply d_take 11; (focus decide +kernel)) | (apply d_take 12; (focus decide +kernel)) | (apply d_take 13; (focus decide +kernel)) | (apply d_take 14; (focus decide +kernel)) | (apply d_take 15; (focus decide +kernel)) | (apply d_take 16; (focus decide +kernel)) | (apply d_take 17; (focus decide +kernel))); (focus (first | exact qds_FPost | exact qds_RPost | exact qds_YB | assumption)); (focus rfl); (iterate 3 (focus (simp only [go_sem, *, It.av, letters, kindsL, swapP, List.length_append, List.length_cons, List.length_nil]; (try rfl); done))); (focus rfl); (focus (simp only [go_sem, *, It.av, letters, kindsL, swapP, List.length_append, List.length_cons, List.length_nil]; (try rfl); done)); simp only [putA])
                | ((first | (apply d_unw 0; (focus decide +kernel)) | (apply d_unw 1; (focus decide +kernel)) | (apply d_unw 2; (focus decide +kernel)) | (apply d_unw 3; (focus decide +kernel)) | (apply d_unw 4; (focus decide +kernel)) | (apply d_unw 5; (focus decide +kernel)) | (apply d_unw 6; (focus decide +kernel)) | (apply d_unw 7; (focus decide +kernel)) | (apply d_unw 8; (focus decide +kernel)) | (apply d_unw 9; (focus decide +kernel)) | (apply d_unw 10; (focus decide +kernel)) | (apply d_unw 11; (focus decide +kernel)) | (apply d_unw 12; (focus decide +kernel)) | (apply d_unw 13; (focus decide +kernel)) | (apply d_unw 14; (focus decide +kernel)) | (apply d_unw 15; (focus decide +kernel)) | (apply d_unw 16; (focus decide +kernel)) | (apply d_unw 17; (focus decide +kernel))); (focus (first | exact qds_FPost | exact qds_RPost | exact qds_YB | assumption)); (focus rfl); (iterate 2 (focus (simp only [go_sem, *, It.av, letters, kindsL, swapP, List.length_append, List.length_cons, List.length_nil]; (try rfl); done))); (focus rfl); simp only [putA])
                | (first | (apply d_one 0; (focus decide +kernel)) | (apply d_one 1; (focus decide +kernel)) | (apply d_one 2; (focus decide +kernel)) | (apply d_one 3; (focus decide +kernel)) | (apply d_one 4; (focus decide +kernel)) | (apply d_one 5; (focus decide +kernel)) | (apply d_one 6; (focus decide +kernel)) | (apply d_one 7; (focus decide +kernel)) | (apply d_one 8; (focus decide +kernel)) | (apply d_one 9; (focus decide +kernel)) | (apply d_one 10; (focus decide +kernel)) | (apply d_one 11; (focus decide +kernel)) | (apply d_one 12; (focus decide +kernel)) | (apply d_one 13; (focus decide +kernel)) | (apply d_one 14; (focus decide +kernel)) | (apply d_one 15; (focus decide +kernel)) | (apply d_one 16; (focus decide +kernel)) | (apply d_one 17; (focus decide +kernel)))
                | (apply o_step; (iterate 3 (focus (simp only [go_sem, *, It.av, letters, kindsL, swapP, List.length_append, List.length_cons, List.length_nil]; (try rfl); done))); (focus rfl); simp only [putA])
                | (apply o_unw; (iterate 2 (focus (simp only [go_sem, *, It.av, letters, kindsL, swapP, List.length_append, List.length_cons, List.length_nil]; (try rfl); done))); (focus rfl); simp only [putA])
                | apply pr_nil | apply pr_same | apply pr_go | apply pl_nil | apply pl_none | (apply pl_skip; (focus decide +kernel)) | (apply pl_one; (focus (simp only [go_sem, *, It.av, letters, kindsL, swapP, List.length_append, List.length_cons, List.length_nil]; (try rfl); done)))
                | (apply o_call []; (iterate 2 (focus (simp only [go_sem, *, It.av, letters, kindsL, swapP, List.length_append, List.length_cons, List.length_nil]; (try rfl); done))); (focus rfl); (focus (simp only [go_sem, *, It.av, letters, kindsL, swapP, List.length_append, List.length_cons, List.length_nil]; (try rfl); done)); (focus rfl); (iterate 2 (focus (simp only [go_sem, *, It.av, letters, kindsL, swapP, List.length_append, List.length_cons, List.length_nil]; (try rfl); done))); (first | (apply hio) | (apply hqo) | (apply wsN; (focus (simp only [go_sem, *, It.av, letters, kindsL, swapP, List.length_append, List.length_cons, List.length_nil]; (try rfl); done)))); simp only [afterOp, putA])
              refine x_keep hO 5 [1, 5, 6, 9, 39, 40, 41] rfl (by (simp only [go_sem, *]; try rfl)) (by (simp only [go_sem, *]; try rfl)) (by (simp only [go_sem, *]; try rfl)) ?_
              simp only [List.take_succ_cons, List.take_zero]
              refine HI.out (i + 1) _ _ (by have := Hil.out; omega) ⟨Hil.out, ?_, ?_, ?_, ?_, ?_, ?_, ?_, ?_, ?_, ?_⟩
              · rw [Hsu.out, Hln.out]; have := HBL.out; have := Hial.out; have := Hql.out; simp only [List.length_append, List.length_cons, List.length_nil]; omega
              · (simp only [go_sem, *]; try rfl)
              · (simp only [go_sem, *]; try rfl)
              · (simp only [go_sem, *]; try rfl)
              · (simp only [go_sem, *]; try rfl)
              · (simp only [go_sem, *]; try rfl)
              · (simp only [go_sem, *]; try rfl)
              · (simp only [go_sem, *]; try rfl)
              · (simp only [go_sem, *]; try rfl)
              · rw [Hsu.out, Hln.out]
                simp only [List.length_append, List.length_cons, List.length_nil, Nat.zero_add]
                rfl
        · have hin : i = r.items.length := by omega
          subst hin
          have h1 : decide ((r.items.length : Int) < (r.items.length : Int)) = false := by simp
          have hpos : 1 ≤ (bodyS r r.items.length).length := by unfold bodyS headS; simp
          clear hlt hi
          repeat' first
            | apply x_seq | apply x_skip | apply x_block | apply x_exit | apply x_ret | apply x_ops_nil | apply p_blk | apply p_exit_it | apply p_exit_hit | apply p_ret_it | apply p_ret_blk | apply p_panic_it | apply p_panic_blk | apply p_end
            | (apply p_exit_miss; (focus rfl))
            | (apply x_region; simp only [List.toList_toArray])
            | (apply x_step0; (focus rfl); (focus (simp only [go_sem, *]; (try rfl); done)); (focus rfl); simp only [putA])
            | (apply x_callA []; (focus (simp only [go_sem, *]; (try rfl); done)); (focus rfl); (focus (simp only [go_sem, *]; (try rfl); done)); (focus rfl); (iterate 2 (focus (simp only [go_sem, *]; (try rfl); done))); (first | (apply bsN; (focus (simp only [go_sem, *]; (try rfl); done)))); simp only [afterCall, putA])
            | (apply x_panic; (focus (simp only [go_sem, *]; (try rfl); done)); (focus rfl); (focus (simp only [go_sem, *]; (try rfl); done)))
            | (apply x_step; (iterate 2 (focus (simp only [go_sem, *]; (try rfl); done))); (focus rfl); simp only [putA])
            | (apply x_unwanted; (focus (simp only [go_sem, *]; (try rfl); done)); (focus rfl); simp only [putA])
            | (apply x_condT; (focus (simp only [go_sem, *]; (try rfl); done)))
            | (apply x_condF; (focus (simp only [go_sem, *]; (try rfl); done)))
            | (apply x_guardS; (focus rfl); (fail_if_success (focus (show _ = some true; (focus (simp only [go_sem, *]; (try rfl); done))))); (focus (simp only [go_sem, *]; (try rfl); done)); all_goals (intro hb; try simp only [Bool.not_eq_true', Bool.not_eq_false'] at hb))
            | (apply x_condS; (focus (simp only [go_sem, *]; (try rfl); done)); all_goals (intro hb; try simp only [Bool.not_eq_true', Bool.not_eq_false'] at hb))
          (apply f_ret; iterate 7 (focus (simp only [go_sem, *, Tryz.results9]; (try rfl); done)))
          exact h
    · intro e rest' hr
      have hp : kindsL.Perm (vis ++ e :: rest') := HP.out.trans (List.Perm.append_left _ hr)
      have hnew := perm_new hp
      obtain ⟨kb, kn, rfl⟩ := kinds_mem (hp.mem_iff.2 (List.mem_append_right _ (List.mem_cons_self ..)))
      have hkeys : ∀ x ∈ vis.map swapP, ∃ a b, x = (.int .i64 a, .int .u8 b) := by
        intro x hx
        obtain ⟨y, hy, rfl⟩ := List.mem_map.1 hx
        obtain ⟨a, b, rfl⟩ := kinds_mem (hp.mem_iff.2 (List.mem_append_left _ hy))
        exact ⟨b, a, rfl⟩
      have HN := Lib.hid hnew
      have HK := Lib.hid hkeys
      have HP2 := Lib.hid hp
      have HR := Lib.hid hr
      have HL1 := Lib.hid (ltP_int (es := vis.map swapP ++ [(.int .i64 kn, .int .u8 kb)]) (by
        intro x hx
        rcases List.mem_append.1 hx with hx | hx
        · obtain ⟨a, b, rfl⟩ := hkeys x hx; exact ⟨_, _, _, _, rfl⟩
        · simp at hx; subst hx; exact ⟨_, _, _, _, rfl⟩))
      have HL2 := Lib.hid (ltP_int (es := rest') (by
        intro x hx
        obtain ⟨a, b, rfl⟩ := kinds_mem (hp.mem_iff.2 (List.mem_append_right _ (List.mem_cons_of_mem _ hx)))
        exact ⟨_, _, _, _, rfl⟩))
      clear hp hnew hkeys hr
      simp only [putA]
      repeat' first
        | apply x_seq | apply x_skip | apply x_block | apply x_exit | apply x_ret | apply x_ops_nil | apply p_blk | apply p_exit_it | apply p_exit_hit | apply p_ret_it | apply p_ret_blk | apply p_panic_it | apply p_panic_blk | apply p_end
        | (apply p_exit_miss; (focus rfl))
        | (apply x_region; simp only [List.toList_toArray])
        | (apply x_step0; (focus rfl); (focus (simp only [go_sem, *]; (try rfl); done)); (focus rfl); simp only [putA])
        | (apply x_panic; (focus (simp only [go_sem, *]; (try rfl); done)); (focus rfl); (focus (simp only [go_sem, *]; (try rfl); done)))
        | (apply x_step; (iterate 2 (focus (simp only [go_sem, *]; (try rfl); done))); (focus rfl); simp only [putA])
        | (apply x_unwanted; (focus (simp only [go_sem, *]; (try rfl); done)); (focus rfl); simp only [putA])
        | (apply x_condT; (focus (simp only [go_sem, *]; (try rfl); done)))
        | (apply x_condF; (focus (simp only [go_sem, *]; (try rfl); done)))
        | (apply x_guardS; (focus rfl); (fail_if_success (focus (show _ = some true; (focus (simp only [go_sem, *]; (try rfl); done))))); (focus (simp only [go_sem, *]; (try rfl); done)); all_goals (intro hb; try simp only [Bool.not_eq_true', Bool.not_eq_false'] at hb))
        | (apply x_condS; (focus (simp only [go_sem, *]; (try rfl); done)); all_goals (intro hb; try simp only [Bool.not_eq_true', Bool.not_eq_false'] at hb))
      have hka : ∀ x ∈ vis.map swapP, keyA Tryz.prog 3 x.1 = true := by
        intro x hx
        obtain ⟨a, b, rfl⟩ := HK.out x hx
        (simp only [go_sem, *]; try rfl)
      have hkk : keyA Tryz.prog 3 (.int .i64 kn) = true := by (simp only [go_sem, *]; try rfl)
      apply x_put
      · (simp only [go_sem, *]; try rfl)
      · rfl
      · (simp only [go_sem, *]; try rfl)
      · (simp only [go_sem, *]; try rfl)
      · (simp only [go_sem, *]; try rfl)
      · (simp only [go_sem, *]; try rfl)
      · (simp only [go_sem, *]; try rfl)
      · exact hkk
      · exact List.all_eq_true.2 hka
      · exact keq_of_mem hkk hka HN.out
      · rfl
      · (simp only [go_sem, *]; try rfl)
      clear hka hkk
      simp only [putA]
      repeat' first
        | apply x_seq | apply x_skip | apply x_block | apply x_exit | apply x_ret | apply x_ops_nil | apply p_blk | apply p_exit_it | apply p_exit_hit | apply p_ret_it | apply p_ret_blk | apply p_panic_it | apply p_panic_blk | apply p_end
        | (apply p_exit_miss; (focus rfl))
        | (apply x_region; simp only [List.toList_toArray])
        | (apply x_step0; (focus rfl); (focus (simp only [go_sem, *]; (try rfl); done)); (focus rfl); simp only [putA])
        | (apply x_panic; (focus (simp only [go_sem, *]; (try rfl); done)); (focus rfl); (focus (simp only [go_sem, *]; (try rfl); done)))
        | (apply x_step; (iterate 2 (focus (simp only [go_sem, *]; (try rfl); done))); (focus rfl); simp only [putA])
        | (apply x_unwanted; (focus (simp only [go_sem, *]; (try rfl); done)); (focus rfl); simp only [putA])
        | (apply x_condT; (focus (simp only [go_sem, *]; (try rfl); done)))
        | (apply x_condF; (focus (simp only [go_sem, *]; (try rfl); done)))
        | (apply x_guardS; (focus rfl); (fail_if_success (focus (show _ = some true; (focus (simp only [go_sem, *]; (try rfl); done))))); (focus (simp only [go_sem, *]; (try rfl); done)); all_goals (intro hb; try simp only [Bool.not_eq_true', Bool.not_eq_false'] at hb))
        | (apply x_condS; (focus (simp only [go_sem, *]; (try rfl); done)); all_goals (intro hb; try simp only [Bool.not_eq_true', Bool.not_eq_false'] at hb))
      refine x_keep hO 3 [1, 5, 6, 20] rfl (by (simp only [go_sem, *]; try rfl)) (by (simp only [go_sem, *]; try rfl)) ?_ ?_
      · have l1 := HL1.out
        have l2 := HL2.out
        (simp only [go_sem, *]; try rfl)
      simp only [List.take_succ_cons, List.take_zero]
      refine HI.out (some (.int .u8 kb, .int .i64 kn), vis ++ [(.int .u8 kb, .int .i64 kn)], rest') _ _ ?_ ⟨?_, ?_, ?_, ?_, ?_, ?_, ?_, ?_⟩
      · have := HR.out.length_eq; simp at this ⊢; omega
      · simpa using HP2.out
      · intro n; rfl
      · (simp only [go_sem, *]; try rfl)
      · (simp only [go_sem, *]; try rfl)
      · (simp only [go_sem, *]; try rfl)
      · (simp only [go_sem, *]; try rfl)
      · (simp only [go_sem, *]; try rfl)
      · simp [swapP]
end Go.Proofs.YtnndmokndgnidaaGreatDoor
namespace Go.Proofs.YtnndmokndgnidaaGreatDoor
open Go Go.Fen
set_option linter.unusedSimpArgs false
set_option linter.unusedVariables false
attribute [local irreducible] RunX WP ACall AnyP OpA ProtL
set_option maxRecDepth 8000
set_option maxHeartbeats 1000000 in
theorem print (w0 : World) (hT : Tab w0) (S : List Blk) (r : Rec) (hm : (r.items.length : Int) < 9223372036854775807) (R : AOut → List Blk → Prop)
    (h : R (.ret (.tup [.str (if checkB r then printS r else []), .int .i64 (if checkB r then 0 else 520)])) S) : ACall Tryz.prog w0 9 [r.av] S R := by
  cases hc : checkB r with
  | true => exact print1 w0 hT S r hm R (by simpa [hc] using h) hc
  | false =>
    have hck := fun S' => check w0 S' r hm
    simp only [hc, Bool.false_eq_true, if_false] at h hck
    clear hT
    unfold Rec.av at hck ⊢
    refine enter Tryz.func9 rfl (by decide +kernel) (by rw [Tryz.ntmps9]; simp) (by rw [Tryz.ntmps9]; decide) (fun hO => ?_); rw [Tryz.ntmps9]
    repeat' first
      | apply x_seq | apply x_skip | apply x_block | apply x_exit | apply x_ret | apply x_ops_nil | apply p_blk | apply p_exit_it | apply p_exit_hit | apply p_ret_it | apply p_ret_blk | apply p_panic_it | apply p_panic_blk | apply p_end
      | (apply p_exit_miss; (focus rfl))
      | (apply x_region; simp only [List.toList_toArray])
      | (apply x_step0; (focus rfl); (focus (simp only [go_sem, *]; (try rfl); done)); (focus rfl); simp only [putA])
      | (apply x_callA []; (focus (simp only [go_sem, *]; (try rfl); done)); (focus rfl); (focus (simp only [go_sem, *]; (try rfl); done)); (focus rfl); (iterate 2 (focus (simp only [go_sem, *]; (try rfl); done))); (first | (apply hck)); simp only [afterCall, putA])
      | (apply x_panic; (focus (simp only [go_sem, *]; (try rfl); done)); (focus rfl); (focus (simp only [go_sem, *]; (try rfl); done)))
      | (apply x_step; (iterate 2 (focus (simp only [go_sem, *]; (try rfl); done))); (focus rfl); simp only [putA])
      | (apply x_unwanted; (focus (simp only [go_sem, *]; (try rfl); done)); (focus rfl); simp only [putA])
      | (apply x_condT; (focus (simp only [go_sem, *]; (try rfl); done)))
      | (apply x_condF; (focus (simp only [go_sem, *]; (try rfl); done)))
      | (apply x_guardS; (focus rfl); (fail_if_success (focus (show _ = some true; (focus (simp only [go_sem, *]; (try rfl); done))))); (focus (simp only [go_sem, *]; (try rfl); done)); all_goals (intro hb; try simp only [Bool.not_eq_true', Bool.not_eq_false'] at hb))
      | (apply x_condS; (focus (simp only [go_sem, *]; (try rfl); done)); all_goals (intro hb; try simp only [Bool.not_eq_true', Bool.not_eq_false'] at hb))
    (apply f_ret; iterate 7 (focus (simp only [go_sem, *, Tryz.results9]; (try rfl); done)))
    exact h
def badV : AV := .ifc 116 (.agg [])
set_option maxHeartbeats 400000 in
theorem mustT (w0 : World) (S : List Blk) (R : AOut → List Blk → Prop) (h : R (.ret (.tup [])) S) : ACall Tryz.prog w0 77 [.bool true] S R := by
  refine enter Tryz.func77 rfl (by decide +kernel) (by rw [Tryz.ntmps77]; simp) (by rw [Tryz.ntmps77]; decide) (fun hO => ?_); rw [Tryz.ntmps77]
  repeat' first
    | apply x_seq | apply x_skip | apply x_block | apply x_exit | apply x_ret | apply x_ops_nil | apply p_blk | apply p_exit_it | apply p_exit_hit | apply p_ret_it | apply p_ret_blk | apply p_panic_it | apply p_panic_blk | apply p_end
    | (apply p_exit_miss; (focus rfl))
    | (apply x_region; simp only [List.toList_toArray])
    | (apply x_step0; (focus rfl); (focus (simp only [go_sem, *]; (try rfl); done)); (focus rfl); simp only [putA])
    | (apply x_panic; (focus (simp only [go_sem, *]; (try rfl); done)); (focus rfl); (focus (simp only [go_sem, *]; (try rfl); done)))
    | (apply x_step; (iterate 2 (focus (simp only [go_sem, *]; (try rfl); done))); (focus rfl); simp only [putA])
    | (apply x_unwanted; (focus (simp only [go_sem, *]; (try rfl); done)); (focus rfl); simp only [putA])
    | (apply x_condT; (focus (simp only [go_sem, *]; (try rfl); done)))
    | (apply x_condF; (focus (simp only [go_sem, *]; (try rfl); done)))
    | (apply x_guardS; (focus rfl); (fail_if_success (focus (show _ = some true; (focus (simp only [go_sem, *]; (try rfl); done))))); (focus (simp only [go_sem, *]; (try rfl); done)); all_goals (intro hb; try simp only [Bool.not_eq_true', Bool.not_eq_false'] at hb))
    | (apply x_condS; (focus (simp only [go_sem, *]; (try rfl); done)); all_goals (intro hb; try simp only [Bool.not_eq_true', Bool.not_eq_false'] at hb))
  (apply f_end; iterate 7 (focus (simp only [go_sem, *, Tryz.results77]; (try rfl); done)))
  exact h
set_option maxHeartbeats 400000 in
theorem mustF (w0 : World) (S : List Blk) (R : AOut → List Blk → Prop) (h : R (.panic badV) S) : ACall Tryz.prog w0 77 [.bool false] S R := by
  refine enter Tryz.func77 rfl (by decide +kernel) (by rw [Tryz.ntmps77]; simp) (by rw [Tryz.ntmps77]; decide) (fun hO => ?_); rw [Tryz.ntmps77]
  repeat' first
    | apply x_seq | apply x_skip | apply x_block | apply x_exit | apply x_ret | apply x_ops_nil | apply p_blk | apply p_exit_it | apply p_exit_hit | apply p_ret_it | apply p_ret_blk | apply p_panic_it | apply p_panic_blk | apply p_end
    | (apply p_exit_miss; (focus rfl))
    | (apply x_region; simp only [List.toList_toArray])
    | (apply x_step0; (focus rfl); (focus (simp only [go_sem, *]; (try rfl); done)); (focus rfl); simp only [putA])
    | (apply x_panic; (focus (simp only [go_sem, *]; (try rfl); done)); (focus rfl); (focus (simp only [go_sem, *]; (try rfl); done)))
    | (apply x_step; (iterate 2 (focus (simp only [go_sem, *]; (try rfl); done))); (focus rfl); simp only [putA])
    | (apply x_unwanted; (focus (simp only [go_sem, *]; (try rfl); done)); (focus rfl); simp only [putA])
    | (apply x_condT; (focus (simp only [go_sem, *]; (try rfl); done)))
    | (apply x_condF; (focus (simp only [go_sem, *]; (try rfl); done)))
    | (apply x_guardS; (focus rfl); (fail_if_success (focus (show _ = some true; (focus (simp only [go_sem, *]; (try rfl); done))))); (focus (simp only [go_sem, *]; (try rfl); done)); all_goals (intro hb; try simp only [Bool.not_eq_true', Bool.not_eq_false'] at hb))
    | (apply x_condS; (focus (simp only [go_sem, *]; (try rfl); done)); all_goals (intro hb; try simp only [Bool.not_eq_true', Bool.not_eq_false'] at hb))
  (apply f_panic; iterate 6 (focus (simp only [go_sem, *]; (try rfl); done)))
  exact h
set_option maxHeartbeats 1000000 in
theorem takeT (w0 : World) (S : List Blk) (a : Nat) (s : List UInt8) (n : Nat) (S1 : List Blk) (ha : S[a]? = some (.cells [.str s])) (hn : n ≤ s.length) (hS1 : S.set a (.cells [.str (s.drop n)]) = S1) (R : AOut → List Blk → Prop)
    (h : R (.ret (.str (s.take n))) S1) : ACall Tryz.prog w0 78 [.own a 0, .int .i64 n] S R := by
  subst hS1
  have hal := (List.getElem?_eq_some_iff.1 ha).1
  have d1 : decide ((n : Int) ≤ (s.length : Int)) = true := by simpa using hn
  have d2 : (n : Int) ≤ (s.length : Int) := by omega
  have hm := mustT w0
  have Hal := Lib.hid hal
  clear hal
  refine enter Tryz.func78 rfl (by decide +kernel) (by rw [Tryz.ntmps78]; simp) (by rw [Tryz.ntmps78]; decide) (fun hO => ?_); rw [Tryz.ntmps78]
  repeat' first
    | apply x_seq | apply x_skip | apply x_block | apply x_exit | apply x_ret | apply x_ops_nil | apply p_blk | apply p_exit_it | apply p_exit_hit | apply p_ret_it | apply p_ret_blk | apply p_panic_it | apply p_panic_blk | apply p_end
    | (apply p_exit_miss; (focus rfl))
    | (apply x_region; simp only [List.toList_toArray])
    | (apply x_step0; (focus rfl); (focus (simp only [go_sem, *]; (try rfl); done)); (focus rfl); simp only [putA])
    | (apply x_callA []; (focus (simp only [go_sem, *]; (try rfl); done)); (focus rfl); (focus (simp only [go_sem, *]; (try rfl); done)); (focus rfl); (iterate 2 (focus (simp only [go_sem, *]; (try rfl); done))); (first | (apply hm)); simp only [afterCall, putA])
    | (apply x_panic; (focus (simp only [go_sem, *]; (try rfl); done)); (focus rfl); (focus (simp only [go_sem, *]; (try rfl); done)))
    | (apply x_step; (iterate 2 (focus (simp only [go_sem, *]; (try rfl); done))); (focus rfl); simp only [putA])
    | (apply x_unwanted; (focus (simp only [go_sem, *]; (try rfl); done)); (focus rfl); simp only [putA])
    | (apply x_condT; (focus (simp only [go_sem, *]; (try rfl); done)))
    | (apply x_condF; (focus (simp only [go_sem, *]; (try rfl); done)))
    | (apply x_guardS; (focus rfl); (fail_if_success (focus (show _ = some true; (focus (simp only [go_sem, *]; (try rfl); done))))); (focus (simp only [go_sem, *]; (try rfl); done)); all_goals (intro hb; try simp only [Bool.not_eq_true', Bool.not_eq_false'] at hb))
    | (apply x_condS; (focus (simp only [go_sem, *]; (try rfl); done)); all_goals (intro hb; try simp only [Bool.not_eq_true', Bool.not_eq_false'] at hb))
  (apply f_retX; iterate 5 (focus (simp only [go_sem, *, Tryz.results78]; (try rfl); done)))
  · exact OuterOk.set hO rfl
  · simp
  · rw [List.take_length]; exact h
set_option maxHeartbeats 1000000 in
theorem takeF (w0 : World) (S : List Blk) (a : Nat) (s : List UInt8) (n : Nat) (ha : S[a]? = some (.cells [.str s])) (hn : decide (n ≤ s.length) = false) (R : AOut → List Blk → Prop)
    (h : R (.panic badV) S) : ACall Tryz.prog w0 78 [.own a 0, .int .i64 n] S R := by
  have d1 : decide ((n : Int) ≤ (s.length : Int)) = false := by simp at hn; simp; omega
  have hm := mustF w0
  clear hn
  refine enter Tryz.func78 rfl (by decide +kernel) (by rw [Tryz.ntmps78]; simp) (by rw [Tryz.ntmps78]; decide) (fun hO => ?_); rw [Tryz.ntmps78]
  repeat' first
    | apply x_seq | apply x_skip | apply x_block | apply x_exit | apply x_ret | apply x_ops_nil | apply p_blk | apply p_exit_it | apply p_exit_hit | apply p_ret_it | apply p_ret_blk | apply p_panic_it | apply p_panic_blk | apply p_end
    | (apply p_exit_miss; (focus rfl))
    | (apply x_region; simp only [List.toList_toArray])
    | (apply x_step0; (focus rfl); (focus (simp only [go_sem, *]; (try rfl); done)); (focus rfl); simp only [putA])
    | (apply x_callA []; (focus (simp only [go_sem, *]; (try rfl); done)); (focus rfl); (focus (simp only [go_sem, *]; (try rfl); done)); (focus rfl); (iterate 2 (focus (simp only [go_sem, *]; (try rfl); done))); (first | (apply hm)); simp only [afterCall, putA])
    | (apply x_panic; (focus (simp only [go_sem, *]; (try rfl); done)); (focus rfl); (focus (simp only [go_sem, *]; (try rfl); done)))
    | (apply x_step; (iterate 2 (focus (simp only [go_sem, *]; (try rfl); done))); (focus rfl); simp only [putA])
    | (apply x_unwanted; (focus (simp only [go_sem, *]; (try rfl); done)); (focus rfl); simp only [putA])
    | (apply x_condT; (focus (simp only [go_sem, *]; (try rfl); done)))
    | (apply x_condF; (focus (simp only [go_sem, *]; (try rfl); done)))
    | (apply x_guardS; (focus rfl); (fail_if_success (focus (show _ = some true; (focus (simp only [go_sem, *]; (try rfl); done))))); (focus (simp only [go_sem, *]; (try rfl); done)); all_goals (intro hb; try simp only [Bool.not_eq_true', Bool.not_eq_false'] at hb))
    | (apply x_condS; (focus (simp only [go_sem, *]; (try rfl); done)); all_goals (intro hb; try simp only [Bool.not_eq_true', Bool.not_eq_false'] at hb))
  (apply f_panicX; iterate 4 (focus (simp only [go_sem, *, badV]; (try rfl); done)))
  · exact hO
  · rfl
  · exact h
set_option maxHeartbeats 1000000 in
theorem oneT (w0 : World) (S : List Blk) (a : Nat) (s lit : List UInt8) (S1 : List Blk) (ha : S[a]? = some (.cells [.str s])) (hn : (s.take lit.length == lit) = true) (hS1 : S.set a (.cells [.str (s.drop lit.length)]) = S1) (R : AOut → List Blk → Prop)
    (h : R (.ret (.tup [])) S1) : ACall Tryz.prog w0 70 [.own a 0, .str lit] S R := by
  subst hS1
  have hle : lit.length ≤ s.length := by have := congrArg List.length (by simpa using hn : s.take lit.length = lit); simp at this; omega
  have hm := mustT w0
  have ht := takeT w0 S a s lit.length _ ha hle rfl
  clear hle
  refine enter Tryz.func70 rfl (by decide +kernel) (by rw [Tryz.ntmps70]; simp) (by rw [Tryz.ntmps70]; decide) (fun hO => ?_); rw [Tryz.ntmps70]
  repeat' first
    | apply x_seq | apply x_skip | apply x_block | apply x_exit | apply x_ret | apply x_ops_nil | apply p_blk | apply p_exit_it | apply p_exit_hit | apply p_ret_it | apply p_ret_blk | apply p_panic_it | apply p_panic_blk | apply p_end
    | (apply p_exit_miss; (focus rfl))
    | (apply x_region; simp only [List.toList_toArray])
    | (apply x_step0; (focus rfl); (focus (simp only [go_sem, *]; (try rfl); done)); (focus rfl); simp only [putA])
    | (apply x_callA []; (focus (simp only [go_sem, *]; (try rfl); done)); (focus rfl); (focus (simp only [go_sem, *]; (try rfl); done)); (focus rfl); (iterate 2 (focus (simp only [go_sem, *]; (try rfl); done))); (first | (apply ht) | (apply hm)); simp only [afterCall, putA])
    | (apply x_panic; (focus (simp only [go_sem, *]; (try rfl); done)); (focus rfl); (focus (simp only [go_sem, *]; (try rfl); done)))
    | (apply x_step; (iterate 2 (focus (simp only [go_sem, *]; (try rfl); done))); (focus rfl); simp only [putA])
    | (apply x_unwanted; (focus (simp only [go_sem, *]; (try rfl); done)); (focus rfl); simp only [putA])
    | (apply x_condT; (focus (simp only [go_sem, *]; (try rfl); done)))
    | (apply x_condF; (focus (simp only [go_sem, *]; (try rfl); done)))
    | (apply x_guardS; (focus rfl); (fail_if_success (focus (show _ = some true; (focus (simp only [go_sem, *]; (try rfl); done))))); (focus (simp only [go_sem, *]; (try rfl); done)); all_goals (intro hb; try simp only [Bool.not_eq_true', Bool.not_eq_false'] at hb))
    | (apply x_condS; (focus (simp only [go_sem, *]; (try rfl); done)); all_goals (intro hb; try simp only [Bool.not_eq_true', Bool.not_eq_false'] at hb))
  (apply f_endX; iterate 5 (focus (simp only [go_sem, *, Tryz.results70]; (try rfl); done)))
  · exact OuterOk.set hO rfl
  · simp
  · exact h
set_option maxHeartbeats 1000000 in
theorem oneF (w0 : World) (S : List Blk) (a : Nat) (s lit : List UInt8) (ha : S[a]? = some (.cells [.str s])) (hn : (s.take lit.length == lit) = false) (R : AOut → List Blk → Prop)
    (h : ∀ s', R (.panic badV) (S.set a (.cells [.str s']))) : ACall Tryz.prog w0 70 [.own a 0, .str lit] S R := by
  have hm := mustF w0
  by_cases hle : lit.length ≤ s.length
  · have ht := takeT w0 S a s lit.length _ ha hle rfl
    clear hle
    refine enter Tryz.func70 rfl (by decide +kernel) (by rw [Tryz.ntmps70]; simp) (by rw [Tryz.ntmps70]; decide) (fun hO => ?_); rw [Tryz.ntmps70]
    repeat' first
      | apply x_seq | apply x_skip | apply x_block | apply x_exit | apply x_ret | apply x_ops_nil | apply p_blk | apply p_exit_it | apply p_exit_hit | apply p_ret_it | apply p_ret_blk | apply p_panic_it | apply p_panic_blk | apply p_end
      | (apply p_exit_miss; (focus rfl))
      | (apply x_region; simp only [List.toList_toArray])
      | (apply x_step0; (focus rfl); (focus (simp only [go_sem, *]; (try rfl); done)); (focus rfl); simp only [putA])
      | (apply x_callA []; (focus (simp only [go_sem, *]; (try rfl); done)); (focus rfl); (focus (simp only [go_sem, *]; (try rfl); done)); (focus rfl); (iterate 2 (focus (simp only [go_sem, *]; (try rfl); done))); (first | (apply ht) | (apply hm)); simp only [afterCall, putA])
      | (apply x_panic; (focus (simp only [go_sem, *]; (try rfl); done)); (focus rfl); (focus (simp only [go_sem, *]; (try rfl); done)))
      | (apply x_step; (iterate 2 (focus (simp only [go_sem, *]; (try rfl); done))); (focus rfl); simp only [putA])
      | (apply x_unwanted; (focus (simp only [go_sem, *]; (try rfl); done)); (focus rfl); simp only [putA])
      | (apply x_condT; (focus (simp only [go_sem, *]; (try rfl); done)))
      | (apply x_condF; (focus (simp only [go_sem, *]; (try rfl); done)))
      | (apply x_guardS; (focus rfl); (fail_if_success (focus (show _ = some true; (focus (simp only [go_sem, *]; (try rfl); done))))); (focus (simp only [go_sem, *]; (try rfl); done)); all_goals (intro hb; try simp only [Bool.not_eq_true', Bool.not_eq_false'] at hb))
      | (apply x_condS; (focus (simp only [go_sem, *]; (try rfl); done)); all_goals (intro hb; try simp only [Bool.not_eq_true', Bool.not_eq_false'] at hb))
    (apply f_panicX; iterate 4 (focus (simp only [go_sem, *, badV]; (try rfl); done)))
    · exact OuterOk.set hO rfl
    · simp
    · exact h _
  · have ht := takeF w0 S a s lit.length ha (by simpa using hle)
    have hh := h s
    have hss : S.set a (.cells [.str s]) = S := set_self ha
    rw [hss] at hh
    clear hle h hss
    refine enter Tryz.func70 rfl (by decide +kernel) (by rw [Tryz.ntmps70]; simp) (by rw [Tryz.ntmps70]; decide) (fun hO => ?_); rw [Tryz.ntmps70]
    repeat' first
      | apply x_seq | apply x_skip | apply x_block | apply x_exit | apply x_ret | apply x_ops_nil | apply p_blk | apply p_exit_it | apply p_exit_hit | apply p_ret_it | apply p_ret_blk | apply p_panic_it | apply p_panic_blk | apply p_end
      | (apply p_exit_miss; (focus rfl))
      | (apply x_region; simp only [List.toList_toArray])
      | (apply x_step0; (focus rfl); (focus (simp only [go_sem, *]; (try rfl); done)); (focus rfl); simp only [putA])
      | (apply x_callA []; (focus (simp only [go_sem, *]; (try rfl); done)); (focus rfl); (focus (simp only [go_sem, *]; (try rfl); done)); (focus rfl); (iterate 2 (focus (simp only [go_sem, *]; (try rfl); done))); (first | (apply ht)); simp only [afterCall, putA])
      | (apply x_panic; (focus (simp only [go_sem, *]; (try rfl); done)); (focus rfl); (focus (simp only [go_sem, *]; (try rfl); done)))
      | (apply x_step; (iterate 2 (focus (simp only [go_sem, *]; (try rfl); done))); (focus rfl); simp only [putA])
      | (apply x_unwanted; (focus (simp only [go_sem, *]; (try rfl); done)); (focus rfl); simp only [putA])
      | (apply x_condT; (focus (simp only [go_sem, *]; (try rfl); done)))
      | (apply x_condF; (focus (simp only [go_sem, *]; (try rfl); done)))
      | (apply x_guardS; (focus rfl); (fail_if_success (focus (show _ = some true; (focus (simp only [go_sem, *]; (try rfl); done))))); (focus (simp only [go_sem, *]; (try rfl); done)); all_goals (intro hb; try simp only [Bool.not_eq_true', Bool.not_eq_false'] at hb))
      | (apply x_condS; (focus (simp only [go_sem, *]; (try rfl); done)); all_goals (intro hb; try simp only [Bool.not_eq_true', Bool.not_eq_false'] at hb))
    (apply f_panicX; iterate 4 (focus (simp only [go_sem, *, badV]; (try rfl); done)))
    · exact hO
    · rfl
    · exact hh
end Go.Proofs.YtnndmokndgnidaaGreatDoor
namespace Go.Proofs.YtnndmokndgnidaaGreatDoor
open Go Go.Fen
set_option linter.unusedSimpArgs false
set_option linter.unusedVariables false
attribute [local irreducible] RunX WP ACall AnyP OpA ProtL
set_option maxRecDepth 8000
theorem ACall.libV {P : Program} {w0 : World} {S : List Blk} {f : FuncId} {args : List AV} {vs : List Value} {v : AV} {c : Value} {R : AOut → List Blk → Prop} (he : ∀ (a : Array Value) (w : World), (callFunc f a).run P w = .ok (.enter f a) w) (ha : args.map cvA = vs.map some)
    (hv : ∀ ι ψ, VR ι ψ v c) (h : ∀ w, RowKit.Below w0.heap.size w0 w → Calls P f vs.toArray w fun e w' => e = .returned c ∧ RowKit.Below w.heap.size w w') (hR : R (.ret v) S) : ACall P w0 f args S R := by
  unfold ACall
  refine ⟨he, fun ι ψ w cargs hRel hl hargs => ?_⟩
  have hlen : args.length = vs.length := by simpa using congrArg List.length ha
  have : cargs = vs.toArray := by
    apply Array.ext_getElem?
    intro j
    by_cases hj : j < args.length
    · have h1 : args[j]? = some args[j] := List.getElem?_eq_getElem hj
      have h2 : cargs[j]? = some cargs[j] := Array.getElem?_eq_getElem (by omega)
      have h3 : vs[j]? = some vs[j] := List.getElem?_eq_getElem (by omega)
      have h4 := hargs j _ _ h1 h2
      have h5 : (args.map cvA)[j]? = (vs.map some)[j]? := by rw [ha]
      simp only [List.getElem?_map, h1, h3, Option.map_some, Option.some.injEq] at h5
      rw [h2]
      simp only [List.getElem?_toArray, h3]
      rw [cvA_sound h4 h5]
    · rw [Array.getElem?_eq_none (by omega), List.getElem?_toArray, List.getElem?_eq_none (by omega)]
  subst this
  refine (h w hRel.below).mono ?_
  rintro e w' ⟨rfl, hb⟩
  have hb0 : RowKit.Below w0.heap.size w w' := hb.mono hRel.n0
  exact ⟨ι, ψ, .ret v, S, Ext.refl _ _, hRel.grow hb0 (fun k hk => hb.block k hk) (Psi.le_refl _) (fun _ _ _ e => .inl e) (fun _ _ _ e => .inl e), hv _ _, hR⟩
def digs : List UInt8 := [48, 49, 50, 51, 52, 53, 54, 55, 56, 57]
def dig (b : UInt8) : Bool := digs.contains b
theorem dig_iff (b : UInt8) : dig b = true ↔ 48 ≤ b.toNat ∧ b.toNat ≤ 57 := by
  have : ∀ n, n < 256 → (dig (UInt8.ofNat n) = true ↔ 48 ≤ n ∧ n ≤ 57) := by decide +kernel
  have h := this b.toNat b.toNat_lt
  rwa [UInt8.ofNat_toNat] at h
theorem trimLeft (w0 : World) (S : List Blk) (s : List UInt8) (R : AOut → List Blk → Prop) (h : R (.ret (.str (s.dropWhile dig))) S) : ACall Tryz.prog w0 85 [.str s, .str [48, 49, 50, 51, 52, 53, 54, 55, 56, 57]] S R := by
  refine ACall.lib (vs := [.string ⟨s.toArray⟩, .string ⟨#[48, 49, 50, 51, 52, 53, 54, 55, 56, 57]⟩]) (v := .str (s.dropWhile dig)) (c := .string ⟨(s.dropWhile dig).toArray⟩) (Go.Proofs.enters_of Tryz.func85 (by kernel_rfl) rfl) rfl rfl ?_ h
  intro w hb
  refine (Go.Proofs.Any.strings_TrimLeft_laid Go.Proofs.Tryz.lays161 (by kernel_rfl) ⟨s.toArray⟩ ⟨#[48, 49, 50, 51, 52, 53, 54, 55, 56, 57]⟩ w (by decide) ?_).mono ?_
  · intro j b hj
    have := List.mem_of_getElem? hj
    simp at this
    rcases this with rfl | rfl | rfl | rfl | rfl | rfl | rfl | rfl | rfl | rfl <;> decide
  · rintro e w' ⟨rfl, hb⟩
    exact ⟨rfl, hb⟩
theorem atoi (w0 : World) (S : List Blk) (s : List UInt8) (n : Int) (hl : s.length ≤ 18) (hn : Lib.atoi s = some n) (R : AOut → List Blk → Prop) (h : R (.ret (.tup [.int .i64 n, .inil])) S) : ACall Tryz.prog w0 86 [.str s] S R := by
  refine ACall.libV (vs := [.string ⟨s.toArray⟩]) (v := .tup [.int .i64 n, .inil]) (c := .tuple #[.int .i64 n, .nilIface]) (Go.Proofs.enters_of Tryz.func86 (by kernel_rfl) rfl) rfl ?_ ?_ h
  · intro ι ψ
    refine .tup _ _ rfl ?_
    rintro (_ | _ | j) x v h1 h2
    · cases h1; cases h2; exact .int _ _
    · cases h1; cases h2; exact .inil
    · simp at h1
  · intro w hb
    refine (Go.Proofs.Any.strconv_Atoi Go.Proofs.Tryz.lays172 ⟨s.toArray⟩ n hl hn w).mono ?_
    rintro e w' ⟨rfl, t, rfl⟩
    exact ⟨rfl, Lib.bytesWorld_below w _ t⟩
theorem decFrom_all : ∀ (l : List UInt8) (acc : Nat), (∀ b ∈ l, dig b = true) → ∃ n, Lib.decFrom acc l = some n := by
  intro l
  induction l with
  | nil => intro acc _; exact ⟨acc, rfl⟩
  | cons b l ih =>
    intro acc h
    have h1 := (dig_iff b).1 (h b (List.mem_cons_self ..))
    obtain ⟨n, hn⟩ := ih (acc * 10 + (b.toNat - 48)) (fun c hc => h c (List.mem_cons_of_mem _ hc))
    exact ⟨n, by simp [Lib.decFrom, Lib.digitVal, h1, hn]⟩
theorem atoi_all {l : List UInt8} (h : ∀ b ∈ l, dig b = true) (h0 : l ≠ []) : ∃ n, Lib.atoi l = some n := by
  cases l with
  | nil => exact absurd rfl h0
  | cons b l =>
    have h1 := (dig_iff b).1 (h b (List.mem_cons_self ..))
    have e1 : (b == 45) = false := by simp; rintro rfl; simp at h1
    have e2 : (b == 43) = false := by simp; rintro rfl; simp at h1
    obtain ⟨n, hn⟩ := decFrom_all (b :: l) 0 h
    exact ⟨n, by simp [Lib.atoi, e1, e2, Lib.decNat, hn]⟩
def digL (s : List UInt8) : List UInt8 := s.takeWhile dig
def numB (s : List UInt8) : Bool := decide ((1 : Int) ≤ ((digL s).length : Int)) && decide (((digL s).length : Int) ≤ 7)
def numV (s : List UInt8) : Int := (Lib.atoi (digL s)).getD 0
theorem digL_all (s : List UInt8) : ∀ b ∈ digL s, dig b = true := by
  unfold digL
  induction s with
  | nil => intro b hb; simp at hb
  | cons c s ih =>
    intro b hb
    rw [List.takeWhile_cons] at hb
    split at hb
    · next hc =>
      rcases List.mem_cons.1 hb with rfl | hb
      · exact hc
      · exact ih b hb
    · simp at hb
theorem digL_app (s : List UInt8) : digL s ++ s.dropWhile dig = s := List.takeWhile_append_dropWhile
theorem digL_take (s : List UInt8) : s.take (digL s).length = digL s := by
  have h := digL_app s
  obtain ⟨d, hd⟩ : ∃ d, digL s = d := ⟨_, rfl⟩
  rw [hd] at h ⊢
  rw [← h]; exact List.take_left
theorem digL_drop (s : List UInt8) : s.drop (digL s).length = s.dropWhile dig := by
  have h := digL_app s
  obtain ⟨d, hd⟩ : ∃ d, digL s = d := ⟨_, rfl⟩
  obtain ⟨e, he⟩ : ∃ e, s.dropWhile dig = e := ⟨_, rfl⟩
  rw [hd, he] at h
  rw [hd, he, ← h]; exact List.drop_left
theorem digL_len (s : List UInt8) : (digL s).length + (s.dropWhile dig).length = s.length := by
  have := congrArg List.length (digL_app s)
  simpa using this
set_option maxHeartbeats 1000000 in
theorem numberT (w0 : World) (S : List Blk) (a : Nat) (s : List UInt8) (hs : (s.length : Int) ≤ 1000000000) (S1 : List Blk) (ha : S[a]? = some (.cells [.str s])) (hn : numB s = true) (hS1 : S.set a (.cells [.str (s.dropWhile dig)]) = S1) (R : AOut → List Blk → Prop)
    (h : R (.ret (.int .i64 (numV s))) S1) : ACall Tryz.prog w0 79 [.own a 0] S R := by
  subst hS1
  have hlen := digL_len s
  unfold numB at hn
  have hn2 := hn
  simp only [Bool.and_eq_true, decide_eq_true_eq] at hn2
  obtain ⟨n, hat⟩ := atoi_all (digL_all s) (by intro h0; rw [h0] at hn2; simp at hn2)
  have hv : numV s = n := by unfold numV; rw [hat]; rfl
  rw [hv] at h
  have ht := takeT w0 S a s (digL s).length _ ha (by omega) rfl
  rw [digL_take, digL_drop] at ht
  have hto := fun S' => atoi w0 S' (digL s) n (by omega) hat
  have hw : IntKind.i64.wrap ((s.length : Int) - ((s.dropWhile dig).length : Int)) = ((digL s).length : Int) := by
    rw [IntWalk.i64_in _ (by omega)]; omega
  have hwi := within w0
  have hm := mustT w0
  have htr := fun S' => trimLeft w0 S' s
  clear hn2 hv hat hs hlen
  refine enter Tryz.func79 rfl (by decide +kernel) (by rw [Tryz.ntmps79]; simp) (by rw [Tryz.ntmps79]; decide) (fun hO => ?_); rw [Tryz.ntmps79]
  repeat' first
    | apply x_seq | apply x_skip | apply x_block | apply x_exit | apply x_ret | apply x_ops_nil | apply p_blk | apply p_exit_it | apply p_exit_hit | apply p_ret_it | apply p_ret_blk | apply p_panic_it | apply p_panic_blk | apply p_end
    | (apply p_exit_miss; (focus rfl))
    | (apply x_region; simp only [List.toList_toArray])
    | (apply x_step0; (focus rfl); (focus (simp only [go_sem, *]; (try rfl); done)); (focus rfl); simp only [putA])
    | (apply x_callA []; (focus (simp only [go_sem, *]; (try rfl); done)); (focus rfl); (focus (simp only [go_sem, *]; (try rfl); done)); (focus rfl); (iterate 2 (focus (simp only [go_sem, *]; (try rfl); done))); (first | (apply htr) | (apply hwi) | (apply hm) | (apply ht) | (apply hto)); simp only [afterCall, putA])
    | (apply x_panic; (focus (simp only [go_sem, *]; (try rfl); done)); (focus rfl); (focus (simp only [go_sem, *]; (try rfl); done)))
    | (apply x_step; (iterate 2 (focus (simp only [go_sem, *]; (try rfl); done))); (focus rfl); simp only [putA])
    | (apply x_unwanted; (focus (simp only [go_sem, *]; (try rfl); done)); (focus rfl); simp only [putA])
    | (apply x_condT; (focus (simp only [go_sem, *]; (try rfl); done)))
    | (apply x_condF; (focus (simp only [go_sem, *]; (try rfl); done)))
    | (apply x_guardS; (focus rfl); (fail_if_success (focus (show _ = some true; (focus (simp only [go_sem, *]; (try rfl); done))))); (focus (simp only [go_sem, *]; (try rfl); done)); all_goals (intro hb; try simp only [Bool.not_eq_true', Bool.not_eq_false'] at hb))
    | (apply x_condS; (focus (simp only [go_sem, *]; (try rfl); done)); all_goals (intro hb; try simp only [Bool.not_eq_true', Bool.not_eq_false'] at hb))
    | (apply d_draw; (focus exact mixed); (focus ((simp only [List.size_toArray, List.length_cons, List.length_nil, Nat.reduceAdd]; try rfl); done)))
    | (apply d_done; (focus decide +kernel))
    | ((first | (apply d_take 0; (focus decide +kernel)) | (apply d_take 1; (focus decide +kernel)) | (apply d_take 2; (focus decide +kernel)) | (apply d_take 3; (focus decide +kernel)) | (apply d_take 4; (focus decide +kernel)) | (apply d_take 5; (focus decide +kernel)) | (apply d_take 6; (focus decide +kernel)) | (apply d_take 7; (focus decide +kernel)) | (apply d_take 8; (focus decide +kernel)) | (apply d_take 9; (focus decide +kernel)) | (apply d_take 10; (focus decide +kernel)) | (apply d_take 11; (focus decide +kernel)) | (apply d_take 12; (focus decide +kernel)) | (apply d_take 13; (focus decide +kernel)) | (apply d_take 14; (focus decide +kernel)) | (apply d_take 15; (focus decide +kernel)) | (apply d_take 16; (focus decide +kernel)) | (apply d_take 17; (focus decide +kernel))); (focus (first | exact qds_FPost | exact qds_RPost | exact qds_YB | assumption)); (focus rfl); (iterate 3 (focus (simp only [go_sem, *]; (try rfl); done))); (focus rfl); (focus (simp only [go_sem, *]; (try rfl); done)); simp only [putA])
    | ((first | (apply d_unw 0; (focus decide +kernel)) | (apply d_unw 1; (focus decide +kernel)) | (apply d_unw 2; (focus decide +kernel)) | (apply d_unw 3; (focus decide +kernel)) | (apply d_unw 4; (focus decide +kernel)) | (apply d_unw 5; (focus decide +kernel)) | (apply d_unw 6; (focus decide +kernel)) | (apply d_unw 7; (focus decide +kernel)) | (apply d_unw 8; (focus decide +kernel)) | (apply d_unw 9; (focus decide +kernel)) | (apply d_unw 10; (focus decide +kernel)) | (apply d_unw 11; (focus decide +kernel)) | (apply d_unw 12; (focus decide +kernel)) | (apply d_unw 13; (focus decide +kernel)) | (apply d_unw 14; (focus decide +kernel)) | (apply d_unw 15; (focus decide +kernel)) | (apply d_unw 16; (focus decide +kernel)) | (apply d_unw 17; (focus decide +kernel))); (focus (first | exact qds_FPost | exact qds_RPost | exact qds_YB | assumption)); (focus rfl); (iterate 2 (focus (simp only [go_sem, *]; (try rfl); done))); (focus rfl); simp only [putA])
    | (first | (apply d_one 0; (focus decide +kernel)) | (apply d_one 1; (focus decide +kernel)) | (apply d_one 2; (focus decide +kernel)) | (apply d_one 3; (focus decide +kernel)) | (apply d_one 4; (focus decide +kernel)) | (apply d_one 5; (focus decide +kernel)) | (apply d_one 6; (focus decide +kernel)) | (apply d_one 7; (focus decide +kernel)) | (apply d_one 8; (focus decide +kernel)) | (apply d_one 9; (focus decide +kernel)) | (apply d_one 10; (focus decide +kernel)) | (apply d_one 11; (focus decide +kernel)) | (apply d_one 12; (focus decide +kernel)) | (apply d_one 13; (focus decide +kernel)) | (apply d_one 14; (focus decide +kernel)) | (apply d_one 15; (focus decide +kernel)) | (apply d_one 16; (focus decide +kernel)) | (apply d_one 17; (focus decide +kernel)))
    | (apply o_step; (iterate 3 (focus (simp only [go_sem, *]; (try rfl); done))); (focus rfl); simp only [putA])
    | (apply o_unw; (iterate 2 (focus (simp only [go_sem, *]; (try rfl); done))); (focus rfl); simp only [putA])
    | apply pr_nil | apply pr_same | apply pr_go | apply pl_nil | apply pl_none | (apply pl_skip; (focus decide +kernel)) | (apply pl_one; (focus (simp only [go_sem, *]; (try rfl); done)))
    | (apply o_call []; (iterate 2 (focus (simp only [go_sem, *]; (try rfl); done))); (focus rfl); (focus (simp only [go_sem, *]; (try rfl); done)); (focus rfl); (iterate 2 (focus (simp only [go_sem, *]; (try rfl); done))); (first | (apply htr) | (apply hwi) | (apply hm) | (apply ht) | (apply hto)); simp only [afterOp, putA])
  (apply f_retX; iterate 5 (focus (simp only [go_sem, *, Tryz.results79]; (try rfl); done)))
  · exact OuterOk.set hO rfl
  · simp
  · exact h
set_option maxHeartbeats 1000000 in
theorem numberF (w0 : World) (S : List Blk) (a : Nat) (s : List UInt8) (hs : (s.length : Int) ≤ 1000000000) (ha : S[a]? = some (.cells [.str s])) (hn : numB s = false) (R : AOut → List Blk → Prop)
    (h : ∀ s', R (.panic badV) (S.set a (.cells [.str s']))) : ACall Tryz.prog w0 79 [.own a 0] S R := by
  have hh := h s
  have hss : S.set a (.cells [.str s]) = S := set_self ha
  rw [hss] at hh
  have hlen := digL_len s
  unfold numB at hn
  have hw : IntKind.i64.wrap ((s.length : Int) - ((s.dropWhile dig).length : Int)) = ((digL s).length : Int) := by
    rw [IntWalk.i64_in _ (by omega)]; omega
  have hwi := within w0
  have hm := mustF w0
  have htr := fun S' => trimLeft w0 S' s
  clear hs hlen h hss
  refine enter Tryz.func79 rfl (by decide +kernel) (by rw [Tryz.ntmps79]; simp) (by rw [Tryz.ntmps79]; decide) (fun hO => ?_); rw [Tryz.ntmps79]
  repeat' first
    | apply x_seq | apply x_skip | apply x_block | apply x_exit | apply x_ret | apply x_ops_nil | apply p_blk | apply p_exit_it | apply p_exit_hit | apply p_ret_it | apply p_ret_blk | apply p_panic_it | apply p_panic_blk | apply p_end
    | (apply p_exit_miss; (focus rfl))
    | (apply x_region; simp only [List.toList_toArray])
    | (apply x_step0; (focus rfl); (focus (simp only [go_sem, *]; (try rfl); done)); (focus rfl); simp only [putA])
    | (apply x_callA []; (focus (simp only [go_sem, *]; (try rfl); done)); (focus rfl); (focus (simp only [go_sem, *]; (try rfl); done)); (focus rfl); (iterate 2 (focus (simp only [go_sem, *]; (try rfl); done))); (first | (apply htr) | (apply hwi) | (apply hm)); simp only [afterCall, putA])
    | (apply x_panic; (focus (simp only [go_sem, *]; (try rfl); done)); (focus rfl); (focus (simp only [go_sem, *]; (try rfl); done)))
    | (apply x_step; (iterate 2 (focus (simp only [go_sem, *]; (try rfl); done))); (focus rfl); simp only [putA])
    | (apply x_unwanted; (focus (simp only [go_sem, *]; (try rfl); done)); (focus rfl); simp only [putA])
    | (apply x_condT; (focus (simp only [go_sem, *]; (try rfl); done)))
    | (apply x_condF; (focus (simp only [go_sem, *]; (try rfl); done)))
    | (apply x_guardS; (focus rfl); (fail_if_success (focus (show _ = some true; (focus (simp only [go_sem, *]; (try rfl); done))))); (focus (simp only [go_sem, *]; (try rfl); done)); all_goals (intro hb; try simp only [Bool.not_eq_true', Bool.not_eq_false'] at hb))
    | (apply x_condS; (focus (simp only [go_sem, *]; (try rfl); done)); all_goals (intro hb; try simp only [Bool.not_eq_true', Bool.not_eq_false'] at hb))
    | (apply d_draw; (focus exact mixed); (focus ((simp only [List.size_toArray, List.length_cons, List.length_nil, Nat.reduceAdd]; try rfl); done)))
    | (apply d_done; (focus decide +kernel))
    | ((first | (apply d_take 0; (focus decide +kernel)) | (apply d_take 1; (focus decide +kernel)) | (apply d_take 2; (focus decide +kernel)) | (apply d_take 3; (focus decide +kernel)) | (apply d_take 4; (focus decide +kernel)) | (apply d_take 5; (focus decide +kernel)) | (apply d_take 6; (focus decide +kernel)) | (apply d_take 7; (focus decide +kernel)) | (apply d_take 8; (focus decide +kernel)) | (apply d_take 9; (focus decide +kernel)) | (apply d_take 10; (focus decide +kernel)) | (apply d_take 11; (focus decide +kernel)) | (apply d_take 12; (focus decide +kernel)) | (apply d_take 13; (focus decide +kernel)) | (apply d_take 14; (focus decide +kernel)) | (apply d_take 15; (focus decide +kernel)) | (apply d_take 16; (focus decide +kernel)) | (apply d_take 17; (focus decide +kernel))); (focus (first | exact qds_FPost | exact qds_RPost | exact qds_YB | assumption)); (focus rfl); (iterate 3 (focus (simp only [go_sem, *]; (try rfl); done))); (focus rfl); (focus (simp only [go_sem, *]; (try rfl); done)); simp only [putA])
    | ((first | (apply d_unw 0; (focus decide +kernel)) | (apply d_unw 1; (focus decide +kernel)) | (apply d_unw 2; (focus decide +kernel)) | (apply d_unw 3; (focus decide +kernel)) | (apply d_unw 4; (focus decide +kernel)) | (apply d_unw 5; (focus decide +kernel)) | (apply d_unw 6; (focus decide +kernel)) | (apply d_unw 7; (focus decide +kernel)) | (apply d_unw 8; (focus decide +kernel)) | (apply d_unw 9; (focus decide +kernel)) | (apply d_unw 10; (focus decide +kernel)) | (apply d_unw 11; (focus decide +kernel)) | (apply d_unw 12; (focus decide +kernel)) | (apply d_unw 13; (focus decide +kernel)) | (apply d_unw 14; (focus decide +kernel)) | (apply d_unw 15; (focus decide +kernel)) | (apply d_unw 16; (focus decide +kernel)) | (apply d_unw 17; (focus decide +kernel))); (focus (first | exact qds_FPost | exact qds_RPost | exact qds_YB | assumption)); (focus rfl); (iterate 2 (focus (simp only [go_sem, *]; (try rfl); done))); (focus rfl); simp only [putA])
    | (first | (apply d_one 0; (focus decide +kernel)) | (apply d_one 1; (focus decide +kernel)) | (apply d_one 2; (focus decide +kernel)) | (apply d_one 3; (focus decide +kernel)) | (apply d_one 4; (focus decide +kernel)) | (apply d_one 5; (focus decide +kernel)) | (apply d_one 6; (focus decide +kernel)) | (apply d_one 7; (focus decide +kernel)) | (apply d_one 8; (focus decide +kernel)) | (apply d_one 9; (focus decide +kernel)) | (apply d_one 10; (focus decide +kernel)) | (apply d_one 11; (focus decide +kernel)) | (apply d_one 12; (focus decide +kernel)) | (apply d_one 13; (focus decide +kernel)) | (apply d_one 14; (focus decide +kernel)) | (apply d_one 15; (focus decide +kernel)) | (apply d_one 16; (focus decide +kernel)) | (apply d_one 17; (focus decide +kernel)))
    | (apply o_step; (iterate 3 (focus (simp only [go_sem, *]; (try rfl); done))); (focus rfl); simp only [putA])
    | (apply o_unw; (iterate 2 (focus (simp only [go_sem, *]; (try rfl); done))); (focus rfl); simp only [putA])
    | apply pr_nil | apply pr_same | apply pr_go | apply pl_nil | apply pl_none | (apply pl_skip; (focus decide +kernel)) | (apply pl_one; (focus (simp only [go_sem, *]; (try rfl); done)))
    | (apply o_call []; (iterate 2 (focus (simp only [go_sem, *]; (try rfl); done))); (focus rfl); (focus (simp only [go_sem, *]; (try rfl); done)); (focus rfl); (iterate 2 (focus (simp only [go_sem, *]; (try rfl); done))); (first | (apply htr) | (apply hwi) | (apply hm)); simp only [afterOp, putA])
  (apply f_panicX; iterate 4 (focus (simp only [go_sem, *, badV]; (try rfl); done)))
  · exact hO
  · rfl
  · exact hh
end Go.Proofs.YtnndmokndgnidaaGreatDoor
namespace Go.Proofs.YtnndmokndgnidaaGreatDoor
open Go Go.Fen
set_option linter.unusedSimpArgs false
set_option linter.unusedVariables false
attribute [local irreducible] RunX WP ACall AnyP OpA ProtL
set_option maxRecDepth 8000
def numP (s : List UInt8) : Option (Int × List UInt8) := if numB s then some (numV s, s.dropWhile dig) else none
def oneP (lit s : List UInt8) : Option (List UInt8) := if s.take lit.length == lit then some (s.drop lit.length) else none
def sizeP (s : List UInt8) : Option ((Int × Int) × List UInt8) :=
  match numP s with
  | none => none
  | some (c, s1) => match oneP [32] s1 with
    | none => none
    | some s2 => match numP s2 with
      | none => none
      | some (r, s3) => some ((c, r), s3)
theorem numP_len {s s' : List UInt8} {v : Int} (h : numP s = some (v, s')) : s'.length ≤ s.length := by
  unfold numP at h
  split at h
  · cases h; have := digL_len s; omega
  · cases h
theorem oneP_len {lit s s' : List UInt8} (h : oneP lit s = some s') : s'.length ≤ s.length := by
  unfold oneP at h
  split at h
  · cases h; simp
  · cases h
def TxT (w0 : World) (a : Nat) (f : Nat) (args : List AV) (s s' : List UInt8) (v : AV) : Prop := ∀ S, S[a]? = some (.cells [.str s]) → ∀ R : AOut → List Blk → Prop, R (.ret v) (S.set a (.cells [.str s'])) → ACall Tryz.prog w0 f (.own a 0 :: args) S R
def TxF (w0 : World) (a : Nat) (f : Nat) (args : List AV) (s : List UInt8) : Prop := ∀ S, S[a]? = some (.cells [.str s]) → ∀ R : AOut → List Blk → Prop, (∀ s', R (.panic badV) (S.set a (.cells [.str s']))) → ACall Tryz.prog w0 f (.own a 0 :: args) S R
theorem nT (w0 : World) (a : Nat) {s s' : List UInt8} {v : Int} (hs : s.length ≤ 1000000000) (h : numP s = some (v, s')) : TxT w0 a 79 [] s s' (.int .i64 v) := by
  unfold numP at h
  split at h
  · next hb =>
    cases h
    intro S ha R hR
    exact numberT w0 S a s (by omega) _ ha hb rfl R hR
  · cases h
theorem nF (w0 : World) (a : Nat) {s : List UInt8} (hs : s.length ≤ 1000000000) (h : numP s = none) : TxF w0 a 79 [] s := by
  unfold numP at h
  split at h
  · cases h
  · next hb =>
    intro S ha R hR
    exact numberF w0 S a s (by omega) ha (by simpa using hb) R hR
theorem oT (w0 : World) (a : Nat) {lit s s' : List UInt8} (h : oneP lit s = some s') : TxT w0 a 70 [.str lit] s s' (.tup []) := by
  unfold oneP at h
  split at h
  · next hb =>
    cases h
    intro S ha R hR
    exact oneT w0 S a s lit _ ha hb rfl R hR
  · cases h
theorem oF (w0 : World) (a : Nat) {lit s : List UInt8} (h : oneP lit s = none) : TxF w0 a 70 [.str lit] s := by
  unfold oneP at h
  split at h
  · cases h
  · next hb =>
    intro S ha R hR
    exact oneF w0 S a s lit ha (by simpa using hb) R hR
set_option maxHeartbeats 1000000 in
theorem sizeT (w0 : World) (a : Nat) {s s' : List UInt8} {c r : Int} (hs : s.length ≤ 1000000000) (h : sizeP s = some ((c, r), s')) : TxT w0 a 71 [] s s' (.tup [.int .i64 c, .int .i64 r]) := by
  unfold sizeP at h
  split at h
  · cases h
  next c s1 hc =>
  split at h
  · cases h
  next s2 ho =>
  split at h
  · cases h
  next r s3 hr =>
  cases h
  intro S ha R hR
  have l1 := numP_len hc
  have l2 := oneP_len ho
  have h1 := nT w0 a hs hc
  have h2 := oT w0 a ho
  have h3 := nT w0 a (by omega) hr
  unfold TxT at h1 h2 h3
  clear hs hc ho hr l1 l2
  refine enter Tryz.func71 rfl (by decide +kernel) (by rw [Tryz.ntmps71]; simp) (by rw [Tryz.ntmps71]; decide) (fun hO => ?_); rw [Tryz.ntmps71]
  repeat' first
    | apply x_seq | apply x_skip | apply x_block | apply x_exit | apply x_ret | apply x_ops_nil | apply p_blk | apply p_exit_it | apply p_exit_hit | apply p_ret_it | apply p_ret_blk | apply p_panic_it | apply p_panic_blk | apply p_end
    | (apply p_exit_miss; (focus rfl))
    | (apply x_region; simp only [List.toList_toArray])
    | (apply x_step0; (focus rfl); (focus (simp only [go_sem, *]; (try rfl); done)); (focus rfl); simp only [putA])
    | (apply x_callA []; (focus (simp only [go_sem, *]; (try rfl); done)); (focus rfl); (focus (simp only [go_sem, *]; (try rfl); done)); (focus rfl); (iterate 2 (focus (simp only [go_sem, *]; (try rfl); done))); (first | (apply h1; (focus (simp only [go_sem, *]; (try rfl); done))) | (apply h2; (focus (simp only [go_sem, *]; (try rfl); done))) | (apply h3; (focus (simp only [go_sem, *]; (try rfl); done)))); simp only [afterCall, putA])
    | (apply x_panic; (focus (simp only [go_sem, *]; (try rfl); done)); (focus rfl); (focus (simp only [go_sem, *]; (try rfl); done)))
    | (apply x_step; (iterate 2 (focus (simp only [go_sem, *]; (try rfl); done))); (focus rfl); simp only [putA])
    | (apply x_unwanted; (focus (simp only [go_sem, *]; (try rfl); done)); (focus rfl); simp only [putA])
    | (apply x_condT; (focus (simp only [go_sem, *]; (try rfl); done)))
    | (apply x_condF; (focus (simp only [go_sem, *]; (try rfl); done)))
    | (apply x_guardS; (focus rfl); (fail_if_success (focus (show _ = some true; (focus (simp only [go_sem, *]; (try rfl); done))))); (focus (simp only [go_sem, *]; (try rfl); done)); all_goals (intro hb; try simp only [Bool.not_eq_true', Bool.not_eq_false'] at hb))
    | (apply x_condS; (focus (simp only [go_sem, *]; (try rfl); done)); all_goals (intro hb; try simp only [Bool.not_eq_true', Bool.not_eq_false'] at hb))
  (apply f_retX; iterate 5 (focus (simp only [go_sem, *, Tryz.results71]; (try rfl); done)))
  · exact OuterOk.set hO rfl
  · simp
  · exact hR
set_option maxHeartbeats 1000000 in
theorem sizeF (w0 : World) (a : Nat) {s : List UInt8} (hs : s.length ≤ 1000000000) (h : sizeP s = none) : TxF w0 a 71 [] s := by
  intro S ha R hR
  unfold sizeP at h
  split at h
  · next hc =>
    have h1 := nF w0 a hs hc
    unfold TxF at h1
    clear hs hc h
    refine enter Tryz.func71 rfl (by decide +kernel) (by rw [Tryz.ntmps71]; simp) (by rw [Tryz.ntmps71]; decide) (fun hO => ?_); rw [Tryz.ntmps71]
    repeat' first
      | apply x_seq | apply x_skip | apply x_block | apply x_exit | apply x_ret | apply x_ops_nil | apply p_blk | apply p_exit_it | apply p_exit_hit | apply p_ret_it | apply p_ret_blk | apply p_panic_it | apply p_panic_blk | apply p_end
      | (apply p_exit_miss; (focus rfl))
      | (apply x_region; simp only [List.toList_toArray])
      | (apply x_step0; (focus rfl); (focus (simp only [go_sem, *]; (try rfl); done)); (focus rfl); simp only [putA])
      | (apply x_callA []; (focus (simp only [go_sem, *]; (try rfl); done)); (focus rfl); (focus (simp only [go_sem, *]; (try rfl); done)); (focus rfl); (iterate 2 (focus (simp only [go_sem, *]; (try rfl); done))); (first | (apply h1; (focus (simp only [go_sem, *]; (try rfl); done)))); simp only [afterCall, putA])
      | (apply x_panic; (focus (simp only [go_sem, *]; (try rfl); done)); (focus rfl); (focus (simp only [go_sem, *]; (try rfl); done)))
      | (apply x_step; (iterate 2 (focus (simp only [go_sem, *]; (try rfl); done))); (focus rfl); simp only [putA])
      | (apply x_unwanted; (focus (simp only [go_sem, *]; (try rfl); done)); (focus rfl); simp only [putA])
      | (apply x_condT; (focus (simp only [go_sem, *]; (try rfl); done)))
      | (apply x_condF; (focus (simp only [go_sem, *]; (try rfl); done)))
      | (apply x_guardS; (focus rfl); (fail_if_success (focus (show _ = some true; (focus (simp only [go_sem, *]; (try rfl); done))))); (focus (simp only [go_sem, *]; (try rfl); done)); all_goals (intro hb; try simp only [Bool.not_eq_true', Bool.not_eq_false'] at hb))
      | (apply x_condS; (focus (simp only [go_sem, *]; (try rfl); done)); all_goals (intro hb; try simp only [Bool.not_eq_true', Bool.not_eq_false'] at hb))
    intro s'
    repeat' first
      | apply x_seq | apply x_skip | apply x_block | apply x_exit | apply x_ret | apply x_ops_nil | apply p_blk | apply p_exit_it | apply p_exit_hit | apply p_ret_it | apply p_ret_blk | apply p_panic_it | apply p_panic_blk | apply p_end
      | (apply p_exit_miss; (focus rfl))
      | (apply x_region; simp only [List.toList_toArray])
      | (apply x_step0; (focus rfl); (focus (simp only [go_sem, *]; (try rfl); done)); (focus rfl); simp only [putA])
      | (apply x_panic; (focus (simp only [go_sem, *]; (try rfl); done)); (focus rfl); (focus (simp only [go_sem, *]; (try rfl); done)))
      | (apply x_step; (iterate 2 (focus (simp only [go_sem, *]; (try rfl); done))); (focus rfl); simp only [putA])
      | (apply x_unwanted; (focus (simp only [go_sem, *]; (try rfl); done)); (focus rfl); simp only [putA])
      | (apply x_condT; (focus (simp only [go_sem, *]; (try rfl); done)))
      | (apply x_condF; (focus (simp only [go_sem, *]; (try rfl); done)))
      | (apply x_guardS; (focus rfl); (fail_if_success (focus (show _ = some true; (focus (simp only [go_sem, *]; (try rfl); done))))); (focus (simp only [go_sem, *]; (try rfl); done)); all_goals (intro hb; try simp only [Bool.not_eq_true', Bool.not_eq_false'] at hb))
      | (apply x_condS; (focus (simp only [go_sem, *]; (try rfl); done)); all_goals (intro hb; try simp only [Bool.not_eq_true', Bool.not_eq_false'] at hb))
    (apply f_panicX; iterate 4 (focus (simp only [go_sem, *, badV]; (try rfl); done)))
    · exact OuterOk.set hO rfl
    · simp
    · exact hR _
  next c s1 hc =>
  have l1 := numP_len hc
  have h1 := nT w0 a hs hc
  unfold TxT at h1
  split at h
  · next ho =>
    have h2 := oF w0 a ho
    unfold TxF at h2
    clear hs hc h ho l1
    refine enter Tryz.func71 rfl (by decide +kernel) (by rw [Tryz.ntmps71]; simp) (by rw [Tryz.ntmps71]; decide) (fun hO => ?_); rw [Tryz.ntmps71]
    repeat' first
      | apply x_seq | apply x_skip | apply x_block | apply x_exit | apply x_ret | apply x_ops_nil | apply p_blk | apply p_exit_it | apply p_exit_hit | apply p_ret_it | apply p_ret_blk | apply p_panic_it | apply p_panic_blk | apply p_end
      | (apply p_exit_miss; (focus rfl))
      | (apply x_region; simp only [List.toList_toArray])
      | (apply x_step0; (focus rfl); (focus (simp only [go_sem, *]; (try rfl); done)); (focus rfl); simp only [putA])
      | (apply x_callA []; (focus (simp only [go_sem, *]; (try rfl); done)); (focus rfl); (focus (simp only [go_sem, *]; (try rfl); done)); (focus rfl); (iterate 2 (focus (simp only [go_sem, *]; (try rfl); done))); (first | (apply h1; (focus (simp only [go_sem, *]; (try rfl); done))) | (apply h2; (focus (simp only [go_sem, *]; (try rfl); done)))); simp only [afterCall, putA])
      | (apply x_panic; (focus (simp only [go_sem, *]; (try rfl); done)); (focus rfl); (focus (simp only [go_sem, *]; (try rfl); done)))
      | (apply x_step; (iterate 2 (focus (simp only [go_sem, *]; (try rfl); done))); (focus rfl); simp only [putA])
      | (apply x_unwanted; (focus (simp only [go_sem, *]; (try rfl); done)); (focus rfl); simp only [putA])
      | (apply x_condT; (focus (simp only [go_sem, *]; (try rfl); done)))
      | (apply x_condF; (focus (simp only [go_sem, *]; (try rfl); done)))
      | (apply x_guardS; (focus rfl); (fail_if_success (focus (show _ = some true; (focus (simp only [go_sem, *]; (try rfl); done))))); (focus (simp only [go_sem, *]; (try rfl); done)); all_goals (intro hb; try simp only [Bool.not_eq_true', Bool.not_eq_false'] at hb))
      | (apply x_condS; (focus (simp only [go_sem, *]; (try rfl); done)); all_goals (intro hb; try simp only [Bool.not_eq_true', Bool.not_eq_false'] at hb))
    intro s'
    repeat' first
      | apply x_seq | apply x_skip | apply x_block | apply x_exit | apply x_ret | apply x_ops_nil | apply p_blk | apply p_exit_it | apply p_exit_hit | apply p_ret_it | apply p_ret_blk | apply p_panic_it | apply p_panic_blk | apply p_end
      | (apply p_exit_miss; (focus rfl))
      | (apply x_region; simp only [List.toList_toArray])
      | (apply x_step0; (focus rfl); (focus (simp only [go_sem, *]; (try rfl); done)); (focus rfl); simp only [putA])
      | (apply x_panic; (focus (simp only [go_sem, *]; (try rfl); done)); (focus rfl); (focus (simp only [go_sem, *]; (try rfl); done)))
      | (apply x_step; (iterate 2 (focus (simp only [go_sem, *]; (try rfl); done))); (focus rfl); simp only [putA])
      | (apply x_unwanted; (focus (simp only [go_sem, *]; (try rfl); done)); (focus rfl); simp only [putA])
      | (apply x_condT; (focus (simp only [go_sem, *]; (try rfl); done)))
      | (apply x_condF; (focus (simp only [go_sem, *]; (try rfl); done)))
      | (apply x_guardS; (focus rfl); (fail_if_success (focus (show _ = some true; (focus (simp only [go_sem, *]; (try rfl); done))))); (focus (simp only [go_sem, *]; (try rfl); done)); all_goals (intro hb; try simp only [Bool.not_eq_true', Bool.not_eq_false'] at hb))
      | (apply x_condS; (focus (simp only [go_sem, *]; (try rfl); done)); all_goals (intro hb; try simp only [Bool.not_eq_true', Bool.not_eq_false'] at hb))
    (apply f_panicX; iterate 4 (focus (simp only [go_sem, *, badV]; (try rfl); done)))
    · exact OuterOk.set hO rfl
    · simp
    · exact hR _
  next s2 ho =>
  have l2 := oneP_len ho
  have h2 := oT w0 a ho
  unfold TxT at h2
  split at h
  · next hr =>
    have h3 := nF w0 a (by omega) hr
    unfold TxF at h3
    clear hs hc h ho l1 l2 hr
    refine enter Tryz.func71 rfl (by decide +kernel) (by rw [Tryz.ntmps71]; simp) (by rw [Tryz.ntmps71]; decide) (fun hO => ?_); rw [Tryz.ntmps71]
    repeat' first
      | apply x_seq | apply x_skip | apply x_block | apply x_exit | apply x_ret | apply x_ops_nil | apply p_blk | apply p_exit_it | apply p_exit_hit | apply p_ret_it | apply p_ret_blk | apply p_panic_it | apply p_panic_blk | apply p_end
      | (apply p_exit_miss; (focus rfl))
      | (apply x_region; simp only [List.toList_toArray])
      | (apply x_step0; (focus rfl); (focus (simp only [go_sem, *]; (try rfl); done)); (focus rfl); simp only [putA])
      | (apply x_callA []; (focus (simp only [go_sem, *]; (try rfl); done)); (focus rfl); (focus (simp only [go_sem, *]; (try rfl); done)); (focus rfl); (iterate 2 (focus (simp only [go_sem, *]; (try rfl); done))); (first | (apply h1; (focus (simp only [go_sem, *]; (try rfl); done))) | (apply h2; (focus (simp only [go_sem, *]; (try rfl); done))) | (apply h3; (focus (simp only [go_sem, *]; (try rfl); done)))); simp only [afterCall, putA])
      | (apply x_panic; (focus (simp only [go_sem, *]; (try rfl); done)); (focus rfl); (focus (simp only [go_sem, *]; (try rfl); done)))
      | (apply x_step; (iterate 2 (focus (simp only [go_sem, *]; (try rfl); done))); (focus rfl); simp only [putA])
      | (apply x_unwanted; (focus (simp only [go_sem, *]; (try rfl); done)); (focus rfl); simp only [putA])
      | (apply x_condT; (focus (simp only [go_sem, *]; (try rfl); done)))
      | (apply x_condF; (focus (simp only [go_sem, *]; (try rfl); done)))
      | (apply x_guardS; (focus rfl); (fail_if_success (focus (show _ = some true; (focus (simp only [go_sem, *]; (try rfl); done))))); (focus (simp only [go_sem, *]; (try rfl); done)); all_goals (intro hb; try simp only [Bool.not_eq_true', Bool.not_eq_false'] at hb))
      | (apply x_condS; (focus (simp only [go_sem, *]; (try rfl); done)); all_goals (intro hb; try simp only [Bool.not_eq_true', Bool.not_eq_false'] at hb))
    intro s'
    repeat' first
      | apply x_seq | apply x_skip | apply x_block | apply x_exit | apply x_ret | apply x_ops_nil | apply p_blk | apply p_exit_it | apply p_exit_hit | apply p_ret_it | apply p_ret_blk | apply p_panic_it | apply p_panic_blk | apply p_end
      | (apply p_exit_miss; (focus rfl))
      | (apply x_region; simp only [List.toList_toArray])
      | (apply x_step0; (focus rfl); (focus (simp only [go_sem, *]; (try rfl); done)); (focus rfl); simp only [putA])
      | (apply x_panic; (focus (simp only [go_sem, *]; (try rfl); done)); (focus rfl); (focus (simp only [go_sem, *]; (try rfl); done)))
      | (apply x_step; (iterate 2 (focus (simp only [go_sem, *]; (try rfl); done))); (focus rfl); simp only [putA])
      | (apply x_unwanted; (focus (simp only [go_sem, *]; (try rfl); done)); (focus rfl); simp only [putA])
      | (apply x_condT; (focus (simp only [go_sem, *]; (try rfl); done)))
      | (apply x_condF; (focus (simp only [go_sem, *]; (try rfl); done)))
      | (apply x_guardS; (focus rfl); (fail_if_success (focus (show _ = some true; (focus (simp only [go_sem, *]; (try rfl); done))))); (focus (simp only [go_sem, *]; (try rfl); done)); all_goals (intro hb; try simp only [Bool.not_eq_true', Bool.not_eq_false'] at hb))
      | (apply x_condS; (focus (simp only [go_sem, *]; (try rfl); done)); all_goals (intro hb; try simp only [Bool.not_eq_true', Bool.not_eq_false'] at hb))
    (apply f_panicX; iterate 4 (focus (simp only [go_sem, *, badV]; (try rfl); done)))
    · exact OuterOk.set hO rfl
    · simp
    · exact hR _
  · cases h
end Go.Proofs.YtnndmokndgnidaaGreatDoor
