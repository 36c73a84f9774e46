/- YtcobfilbmfokoaaGreatDoorWalk2. Texts of the proof of a law about recordings: a layer of abstract values above the worlds, the types, the walks of the functions that the law reaches, the law and its card. Own work of an AI agent. -/
import Derived.Test.YtcobfilbmfokoaaGreatDoorWalk1
set_option linter.all false
set_option linter.unusedVariables false
set_option linter.unusedSimpArgs false
namespace Go.Proofs.YtcobfilbmfokoaaGreatDoor
open Go Go.Fen
set_option linter.unusedSimpArgs false
set_option linter.unusedVariables false
attribute [local irreducible] RunX WP ACall AnyP OpA ProtL
set_option maxRecDepth 8000
section
variable (w0 : World) (S : List Blk) (a : Nat) (t : List UInt8)
theorem byte1' (r : List UInt8) (c : UInt8) (e : AV) (ht : t.length ≤ 10000000) (he : ErrOk e) (hal : a < S.length) (hs : c :: r <:+ t) (R : AOut → List Blk → Prop) (h : R (.ret (.int .u8 (c.toNat : Nat))) (S.set a (.cells [.str t, .int .i64 (scP t r : Nat), e]))) :
    ACall Tryz.prog w0 85 [.own a 0] (S.set a (.cells [.str t, .int .i64 (scP t (c :: r) : Nat), e])) R :=
  cByte1 w0 _ a t r c e ht he (by simp [hal]) hs R (by rw [List.set_set]; exact h)
theorem byte0' (e : AV) (he : ErrOk e) (hal : a < S.length) (R : AOut → List Blk → Prop) (h : ∀ q, R (.ret (.int .u8 0)) (S.set a (.cells [.str t, .int .i64 (scP t [] : Nat), errV q]))) :
    ACall Tryz.prog w0 85 [.own a 0] (S.set a (.cells [.str t, .int .i64 (scP t [] : Nat), e])) R :=
  cByte0 w0 _ a t e he (by simp [hal]) R (fun q => by rw [List.set_set]; exact h q)
theorem fail' (p : Int) (e : AV) (he : ErrOk e) (hal : a < S.length) (L : List Blk) (R : AOut → List Blk → Prop) (h : ∀ q, R (.ret (.tup [])) (S.set a (.cells [.str t, .int .i64 p, errV q]) ++ L)) :
    ACall Tryz.prog w0 46 [.own a 0] (S.set a (.cells [.str t, .int .i64 p, e]) ++ L) R := by
  refine cFail w0 _ a t p e he ?_ R (fun q => ?_)
  · rw [List.getElem?_append_left (by simpa using hal)]; simp [hal]
  · rw [List.set_append_left _ _ (by simpa using hal), List.set_set]; exact h q
theorem fail0' (p : Int) (e : AV) (he : ErrOk e) (hal : a < S.length) (R : AOut → List Blk → Prop) (h : ∀ q, R (.ret (.tup [])) (S.set a (.cells [.str t, .int .i64 p, errV q]))) :
    ACall Tryz.prog w0 46 [.own a 0] (S.set a (.cells [.str t, .int .i64 p, e])) R := by
  have := fail' w0 S a t p e he hal [] R (by simpa using h)
  simpa using this
end
theorem outSet2 {S : List Blk} {a : Nat} {t : List UInt8} {x y : Int} {e' e2 : AV} (hO : OuterOk (S.set a (.cells [.str t, .int .i64 y, e2]))) (he' : ErrOk e') : OuterOk (S.set a (.cells [.str t, .int .i64 x, e'])) := by
  have := OuterOk.set (a := a) (B := .cells [.str t, .int .i64 x, e']) hO (by simp [Blk.ltB, ltL, AV.lt, (err_lt he' _).1])
  rwa [List.set_set] at this
def escP : List UInt8 → Option (UInt8 × List UInt8)
  | [] => none
  | c :: r => if c.toNat = 34 ∨ c.toNat = 92 then some (c, r) else if c.toNat = 120 then (match r with
    | b1 :: b2 :: r2 => (hexV b1 b2).map fun v => (UInt8.ofNat v, r2)
    | _ => none) else none
theorem escP_cons (c : UInt8) (r : List UInt8) : escP (c :: r) = if c.toNat = 34 ∨ c.toNat = 92 then some (c, r) else if c.toNat = 120 then (match r with
    | b1 :: b2 :: r2 => (hexV b1 b2).map fun v => (UInt8.ofNat v, r2)
    | _ => none) else none := rfl
set_option maxHeartbeats 4000000 in
theorem cEsc (w0 : World) (hPU : PU16 w0) (S : List Blk) (a : Nat) (t s : List UInt8) (e : AV) (ht : t.length ≤ 10000000) (he : ErrOk e) (hal : a < S.length) (hs : s <:+ t) (R : AOut → List Blk → Prop)
    (h1 : ∀ v r, escP s = some (v, r) → R (.ret (.int .u8 (v.toNat : Nat))) (S.set a (.cells [.str t, .int .i64 (scP t r : Nat), e])))
    (h0 : escP s = none → ∀ q r x, r <:+ t → R (.ret (.int .u8 x)) (S.set a (.cells [.str t, .int .i64 (scP t r : Nat), errV q]))) :
    ACall Tryz.prog w0 86 [.own a 0] (S.set a (.cells [.str t, .int .i64 (scP t s : Nat), e])) R := by
  have hgs : ∀ x e, (S.set a (.cells [.str t, .int .i64 x, e]))[a]? = some (.cells [.str t, .int .i64 x, e]) := fun x e => by simp [hal]
  have hgn : ∀ x e B, (S.set a (.cells [.str t, .int .i64 x, e]) ++ [B])[S.length]? = some B := fun x e B => by
    rw [List.getElem?_append_right (by simp)]; simp
  cases s with
  | nil =>
    have hb := byte0' w0 S a t e he hal
    have hf := fun q => fail0' w0 S a t (scP t [] : Nat) (errV q) (errOk_v q) hal
    have h := h0 rfl
    clear h0 h1
    refine enter Tryz.func86 rfl (by decide +kernel) (by rw [Tryz.ntmps86]; simp) (by rw [Tryz.ntmps86]; decide) (fun hO => ?_); rw [Tryz.ntmps86]
    repeat' first
      | apply x_seq | apply x_skip | apply x_block | apply x_exit | apply x_ret | apply x_ops_nil | apply p_blk | apply p_exit_it | apply p_exit_hit | apply p_ret_it | apply p_ret_blk | apply p_panic_it | apply p_panic_blk | apply p_end
      | (apply p_exit_miss; (focus rfl))
      | (apply x_region; simp only [List.toList_toArray])
      | (apply x_step0; (focus rfl); (focus (simp only [go_sem, *]; (try rfl); done)); (focus rfl); simp only [putA])
      | (apply x_callA []; (focus (simp only [go_sem, *]; (try rfl); done)); (focus rfl); (focus (simp only [go_sem, *]; (try rfl); done)); (focus rfl); (iterate 2 (focus (simp only [go_sem, *]; (try rfl); done))); (first | (apply hb)); simp only [afterCall, putA])
      | (apply x_panic; (focus (simp only [go_sem, *]; (try rfl); done)); (focus rfl); (focus (simp only [go_sem, *]; (try rfl); done)))
      | (apply x_step; (iterate 2 (focus (simp only [go_sem, *]; (try rfl); done))); (focus rfl); simp only [putA])
      | (apply x_unwanted; (focus (simp only [go_sem, *]; (try rfl); done)); (focus rfl); simp only [putA])
      | (apply x_condT; (focus (simp only [go_sem, *]; (try rfl); done)))
      | (apply x_condF; (focus (simp only [go_sem, *]; (try rfl); done)))
      | (apply x_guardS; (focus rfl); (fail_if_success (focus (show _ = some true; (focus (simp only [go_sem, *]; (try rfl); done))))); (focus (simp only [go_sem, *]; (try rfl); done)); all_goals (intro hb; try simp only [Bool.not_eq_true', Bool.not_eq_false'] at hb))
      | (apply x_condS; (focus (simp only [go_sem, *]; (try rfl); done)); all_goals (intro hb; try simp only [Bool.not_eq_true', Bool.not_eq_false'] at hb))
    intro q
    repeat' first
      | apply x_seq | apply x_skip | apply x_block | apply x_exit | apply x_ret | apply x_ops_nil | apply p_blk | apply p_exit_it | apply p_exit_hit | apply p_ret_it | apply p_ret_blk | apply p_panic_it | apply p_panic_blk | apply p_end
      | (apply p_exit_miss; (focus rfl))
      | (apply x_region; simp only [List.toList_toArray])
      | (apply x_step0; (focus rfl); (focus (simp only [go_sem, *]; (try rfl); done)); (focus rfl); simp only [putA])
      | (apply x_callA []; (focus (simp only [go_sem, *]; (try rfl); done)); (focus rfl); (focus (simp only [go_sem, *]; (try rfl); done)); (focus rfl); (iterate 2 (focus (simp only [go_sem, *]; (try rfl); done))); (first | (apply hf)); simp only [afterCall, putA])
      | (apply x_panic; (focus (simp only [go_sem, *]; (try rfl); done)); (focus rfl); (focus (simp only [go_sem, *]; (try rfl); done)))
      | (apply x_step; (iterate 2 (focus (simp only [go_sem, *]; (try rfl); done))); (focus rfl); simp only [putA])
      | (apply x_unwanted; (focus (simp only [go_sem, *]; (try rfl); done)); (focus rfl); simp only [putA])
      | (apply x_condT; (focus (simp only [go_sem, *]; (try rfl); done)))
      | (apply x_condF; (focus (simp only [go_sem, *]; (try rfl); done)))
      | (apply x_guardS; (focus rfl); (fail_if_success (focus (show _ = some true; (focus (simp only [go_sem, *]; (try rfl); done))))); (focus (simp only [go_sem, *]; (try rfl); done)); all_goals (intro hb; try simp only [Bool.not_eq_true', Bool.not_eq_false'] at hb))
      | (apply x_condS; (focus (simp only [go_sem, *]; (try rfl); done)); all_goals (intro hb; try simp only [Bool.not_eq_true', Bool.not_eq_false'] at hb))
    intro q2
    repeat' first
      | apply x_seq | apply x_skip | apply x_block | apply x_exit | apply x_ret | apply x_ops_nil | apply p_blk | apply p_exit_it | apply p_exit_hit | apply p_ret_it | apply p_ret_blk | apply p_panic_it | apply p_panic_blk | apply p_end
      | (apply p_exit_miss; (focus rfl))
      | (apply x_region; simp only [List.toList_toArray])
      | (apply x_step0; (focus rfl); (focus (simp only [go_sem, *]; (try rfl); done)); (focus rfl); simp only [putA])
      | (apply x_panic; (focus (simp only [go_sem, *]; (try rfl); done)); (focus rfl); (focus (simp only [go_sem, *]; (try rfl); done)))
      | (apply x_step; (iterate 2 (focus (simp only [go_sem, *]; (try rfl); done))); (focus rfl); simp only [putA])
      | (apply x_unwanted; (focus (simp only [go_sem, *]; (try rfl); done)); (focus rfl); simp only [putA])
      | (apply x_condT; (focus (simp only [go_sem, *]; (try rfl); done)))
      | (apply x_condF; (focus (simp only [go_sem, *]; (try rfl); done)))
      | (apply x_guardS; (focus rfl); (fail_if_success (focus (show _ = some true; (focus (simp only [go_sem, *]; (try rfl); done))))); (focus (simp only [go_sem, *]; (try rfl); done)); all_goals (intro hb; try simp only [Bool.not_eq_true', Bool.not_eq_false'] at hb))
      | (apply x_condS; (focus (simp only [go_sem, *]; (try rfl); done)); all_goals (intro hb; try simp only [Bool.not_eq_true', Bool.not_eq_false'] at hb))
    apply f_retO (S2 := S.set a (.cells [.str t, .int .i64 (scP t [] : Nat), errV q2])) (L := [])
    · (simp only [go_sem, *]; try rfl)
    · (simp only [go_sem, *]; try rfl)
    · simp
    · exact outSet2 hO (errOk_v q2)
    · (simp only [go_sem, *, Tryz.results86]; try rfl)
    · (simp only [go_sem, *]; try rfl)
    · (simp only [go_sem, *]; try rfl)
    · exact h q2 [] 0 List.nil_suffix
  | cons c r =>
    have hr : r <:+ t := (suf_at hs rfl).1
    have hb := byte1' w0 S a t r c e ht he hal hs
    have hf := fail0' w0 S a t (scP t r : Nat) e he hal
    by_cases c1 : c.toNat = 34 ∨ c.toNat = 92
    · have h := h1 c r (by rw [escP_cons, if_pos c1])
      have hd : ((c.toNat : Int) == 34) = true ∨ (((c.toNat : Int) == 34) = false ∧ ((c.toNat : Int) == 92) = true) := by
        rcases c1 with e | e
        · left; rw [e]; rfl
        · right; rw [e]; exact ⟨rfl, rfl⟩
      clear h0 h1 c1 hs hf
      rcases hd with d1 | ⟨d1, d2⟩
      all_goals
        refine enter Tryz.func86 rfl (by decide +kernel) (by rw [Tryz.ntmps86]; simp) (by rw [Tryz.ntmps86]; decide) (fun hO => ?_); rw [Tryz.ntmps86]
        repeat' first
          | apply x_seq | apply x_skip | apply x_block | apply x_exit | apply x_ret | apply x_ops_nil | apply p_blk | apply p_exit_it | apply p_exit_hit | apply p_ret_it | apply p_ret_blk | apply p_panic_it | apply p_panic_blk | apply p_end
          | (apply p_exit_miss; (focus rfl))
          | (apply x_region; simp only [List.toList_toArray])
          | (apply x_step0; (focus rfl); (focus (simp only [go_sem, *]; (try rfl); done)); (focus rfl); simp only [putA])
          | (apply x_callA []; (focus (simp only [go_sem, *]; (try rfl); done)); (focus rfl); (focus (simp only [go_sem, *]; (try rfl); done)); (focus rfl); (iterate 2 (focus (simp only [go_sem, *]; (try rfl); done))); (first | (apply hb)); simp only [afterCall, putA])
          | (apply x_panic; (focus (simp only [go_sem, *]; (try rfl); done)); (focus rfl); (focus (simp only [go_sem, *]; (try rfl); done)))
          | (apply x_step; (iterate 2 (focus (simp only [go_sem, *]; (try rfl); done))); (focus rfl); simp only [putA])
          | (apply x_unwanted; (focus (simp only [go_sem, *]; (try rfl); done)); (focus rfl); simp only [putA])
          | (apply x_condT; (focus (simp only [go_sem, *]; (try rfl); done)))
          | (apply x_condF; (focus (simp only [go_sem, *]; (try rfl); done)))
          | (apply x_guardS; (focus rfl); (fail_if_success (focus (show _ = some true; (focus (simp only [go_sem, *]; (try rfl); done))))); (focus (simp only [go_sem, *]; (try rfl); done)); all_goals (intro hb; try simp only [Bool.not_eq_true', Bool.not_eq_false'] at hb))
          | (apply x_condS; (focus (simp only [go_sem, *]; (try rfl); done)); all_goals (intro hb; try simp only [Bool.not_eq_true', Bool.not_eq_false'] at hb))
        apply f_retO (S2 := S.set a (.cells [.str t, .int .i64 (scP t r : Nat), e])) (L := [])
        · (simp only [go_sem, *]; try rfl)
        · (simp only [go_sem, *]; try rfl)
        · simp
        · exact outSet2 hO he
        · (simp only [go_sem, *, Tryz.results86]; try rfl)
        · (simp only [go_sem, *]; try rfl)
        · (simp only [go_sem, *]; try rfl)
        · exact h
    have d1 : ((c.toNat : Int) == 34) = false := by rw [beq_eq_false_iff_ne]; omega
    have d2 : ((c.toNat : Int) == 92) = false := by rw [beq_eq_false_iff_ne]; omega
    by_cases c2 : c.toNat = 120
    · have d3 : ((c.toNat : Int) == 120) = true := by rw [c2]; rfl
      have hx0 : ∀ b, hexV b 0 = none := fun b => by
        unfold hexV
        rw [show hexD1 0 = none by decide]
        cases hexD1 b <;> rfl
      match r, hs, hr, hb, hf, h0, h1 with
      | [], hs, hr, hb, hf, h0, h1 =>
        have h := h0 (by rw [escP_cons, if_neg c1, if_pos c2])
        have hb1 := byte0' w0 S a t e he hal
        have hb2 := fun q => byte0' w0 S a t (errV q) (errOk_v q) hal
        have hpu := fun S' R h => hPU S' 0 0 R (fun v hv => by rw [hx0] at hv; cases hv) (fun _ => h)
        have hfa := fun q => fail' w0 S a t (scP t [] : Nat) (errV q) (errOk_v q) hal
        clear h0 h1 hs hf hx0 c1 c2
        refine enter Tryz.func86 rfl (by decide +kernel) (by rw [Tryz.ntmps86]; simp) (by rw [Tryz.ntmps86]; decide) (fun hO => ?_); rw [Tryz.ntmps86]
        repeat' first
          | apply x_seq | apply x_skip | apply x_block | apply x_exit | apply x_ret | apply x_ops_nil | apply p_blk | apply p_exit_it | apply p_exit_hit | apply p_ret_it | apply p_ret_blk | apply p_panic_it | apply p_panic_blk | apply p_end
          | (apply p_exit_miss; (focus rfl))
          | (apply x_region; simp only [List.toList_toArray])
          | (apply x_step0; (focus rfl); (focus (simp only [go_sem, *]; (try rfl); done)); (focus rfl); simp only [putA])
          | (apply x_callA []; (focus (simp only [go_sem, *]; (try rfl); done)); (focus rfl); (focus (simp only [go_sem, *]; (try rfl); done)); (focus rfl); (iterate 2 (focus (simp only [go_sem, *]; (try rfl); done))); (first | (apply hb) | (apply hb1)); simp only [afterCall, putA])
          | (apply x_panic; (focus (simp only [go_sem, *]; (try rfl); done)); (focus rfl); (focus (simp only [go_sem, *]; (try rfl); done)))
          | (apply x_step; (iterate 2 (focus (simp only [go_sem, *]; (try rfl); done))); (focus rfl); simp only [putA])
          | (apply x_unwanted; (focus (simp only [go_sem, *]; (try rfl); done)); (focus rfl); simp only [putA])
          | (apply x_condT; (focus (simp only [go_sem, *]; (try rfl); done)))
          | (apply x_condF; (focus (simp only [go_sem, *]; (try rfl); done)))
          | (apply x_guardS; (focus rfl); (fail_if_success (focus (show _ = some true; (focus (simp only [go_sem, *]; (try rfl); done))))); (focus (simp only [go_sem, *]; (try rfl); done)); all_goals (intro hb; try simp only [Bool.not_eq_true', Bool.not_eq_false'] at hb))
          | (apply x_condS; (focus (simp only [go_sem, *]; (try rfl); done)); all_goals (intro hb; try simp only [Bool.not_eq_true', Bool.not_eq_false'] at hb))
        intro q
        repeat' first
          | apply x_seq | apply x_skip | apply x_block | apply x_exit | apply x_ret | apply x_ops_nil | apply p_blk | apply p_exit_it | apply p_exit_hit | apply p_ret_it | apply p_ret_blk | apply p_panic_it | apply p_panic_blk | apply p_end
          | (apply p_exit_miss; (focus rfl))
          | (apply x_region; simp only [List.toList_toArray])
          | (apply x_step0; (focus rfl); (focus (simp only [go_sem, *]; (try rfl); done)); (focus rfl); simp only [putA])
          | (apply x_callA []; (focus (simp only [go_sem, *]; (try rfl); done)); (focus rfl); (focus (simp only [go_sem, *]; (try rfl); done)); (focus rfl); (iterate 2 (focus (simp only [go_sem, *]; (try rfl); done))); (first | (apply hb2)); simp only [afterCall, putA])
          | (apply x_panic; (focus (simp only [go_sem, *]; (try rfl); done)); (focus rfl); (focus (simp only [go_sem, *]; (try rfl); done)))
          | (apply x_step; (iterate 2 (focus (simp only [go_sem, *]; (try rfl); done))); (focus rfl); simp only [putA])
          | (apply x_unwanted; (focus (simp only [go_sem, *]; (try rfl); done)); (focus rfl); simp only [putA])
          | (apply x_condT; (focus (simp only [go_sem, *]; (try rfl); done)))
          | (apply x_condF; (focus (simp only [go_sem, *]; (try rfl); done)))
          | (apply x_guardS; (focus rfl); (fail_if_success (focus (show _ = some true; (focus (simp only [go_sem, *]; (try rfl); done))))); (focus (simp only [go_sem, *]; (try rfl); done)); all_goals (intro hb; try simp only [Bool.not_eq_true', Bool.not_eq_false'] at hb))
          | (apply x_condS; (focus (simp only [go_sem, *]; (try rfl); done)); all_goals (intro hb; try simp only [Bool.not_eq_true', Bool.not_eq_false'] at hb))
        intro q2
        repeat' first
          | apply x_seq | apply x_skip | apply x_block | apply x_exit | apply x_ret | apply x_ops_nil | apply p_blk | apply p_exit_it | apply p_exit_hit | apply p_ret_it | apply p_ret_blk | apply p_panic_it | apply p_panic_blk | apply p_end
          | (apply p_exit_miss; (focus rfl))
          | (apply x_region; simp only [List.toList_toArray])
          | (apply x_step0; (focus rfl); (focus (simp only [go_sem, *]; (try rfl); done)); (focus rfl); simp only [putA])
          | (apply x_callA []; (focus (simp only [go_sem, *]; (try rfl); done)); (focus rfl); (focus (simp only [go_sem, *]; (try rfl); done)); (focus rfl); (iterate 2 (focus (simp only [go_sem, *]; (try rfl); done))); (first | (apply hpu)); simp only [afterCall, putA])
          | (apply x_panic; (focus (simp only [go_sem, *]; (try rfl); done)); (focus rfl); (focus (simp only [go_sem, *]; (try rfl); done)))
          | (apply x_step; (iterate 2 (focus (simp only [go_sem, *]; (try rfl); done))); (focus rfl); simp only [putA])
          | (apply x_unwanted; (focus (simp only [go_sem, *]; (try rfl); done)); (focus rfl); simp only [putA])
          | (apply x_condT; (focus (simp only [go_sem, *]; (try rfl); done)))
          | (apply x_condF; (focus (simp only [go_sem, *]; (try rfl); done)))
          | (apply x_guardS; (focus rfl); (fail_if_success (focus (show _ = some true; (focus (simp only [go_sem, *]; (try rfl); done))))); (focus (simp only [go_sem, *]; (try rfl); done)); all_goals (intro hb; try simp only [Bool.not_eq_true', Bool.not_eq_false'] at hb))
          | (apply x_condS; (focus (simp only [go_sem, *]; (try rfl); done)); all_goals (intro hb; try simp only [Bool.not_eq_true', Bool.not_eq_false'] at hb))
        intro te xe
        repeat' first
          | apply x_seq | apply x_skip | apply x_block | apply x_exit | apply x_ret | apply x_ops_nil | apply p_blk | apply p_exit_it | apply p_exit_hit | apply p_ret_it | apply p_ret_blk | apply p_panic_it | apply p_panic_blk | apply p_end
          | (apply p_exit_miss; (focus rfl))
          | (apply x_region; simp only [List.toList_toArray])
          | (apply x_step0; (focus rfl); (focus (simp only [go_sem, *]; (try rfl); done)); (focus rfl); simp only [putA])
          | (apply x_callA []; (focus (simp only [go_sem, *]; (try rfl); done)); (focus rfl); (focus (simp only [go_sem, *]; (try rfl); done)); (focus rfl); (iterate 2 (focus (simp only [go_sem, *]; (try rfl); done))); (first | (apply hfa)); simp only [afterCall, putA])
          | (apply x_panic; (focus (simp only [go_sem, *]; (try rfl); done)); (focus rfl); (focus (simp only [go_sem, *]; (try rfl); done)))
          | (apply x_step; (iterate 2 (focus (simp only [go_sem, *]; (try rfl); done))); (focus rfl); simp only [putA])
          | (apply x_unwanted; (focus (simp only [go_sem, *]; (try rfl); done)); (focus rfl); simp only [putA])
          | (apply x_condT; (focus (simp only [go_sem, *]; (try rfl); done)))
          | (apply x_condF; (focus (simp only [go_sem, *]; (try rfl); done)))
          | (apply x_guardS; (focus rfl); (fail_if_success (focus (show _ = some true; (focus (simp only [go_sem, *]; (try rfl); done))))); (focus (simp only [go_sem, *]; (try rfl); done)); all_goals (intro hb; try simp only [Bool.not_eq_true', Bool.not_eq_false'] at hb))
          | (apply x_condS; (focus (simp only [go_sem, *]; (try rfl); done)); all_goals (intro hb; try simp only [Bool.not_eq_true', Bool.not_eq_false'] at hb))
        intro q3
        repeat' first
          | apply x_seq | apply x_skip | apply x_block | apply x_exit | apply x_ret | apply x_ops_nil | apply p_blk | apply p_exit_it | apply p_exit_hit | apply p_ret_it | apply p_ret_blk | apply p_panic_it | apply p_panic_blk | apply p_end
          | (apply p_exit_miss; (focus rfl))
          | (apply x_region; simp only [List.toList_toArray])
          | (apply x_step0; (focus rfl); (focus (simp only [go_sem, *]; (try rfl); done)); (focus rfl); simp only [putA])
          | (apply x_panic; (focus (simp only [go_sem, *]; (try rfl); done)); (focus rfl); (focus (simp only [go_sem, *]; (try rfl); done)))
          | (apply x_step; (iterate 2 (focus (simp only [go_sem, *]; (try rfl); done))); (focus rfl); simp only [putA])
          | (apply x_unwanted; (focus (simp only [go_sem, *]; (try rfl); done)); (focus rfl); simp only [putA])
          | (apply x_condT; (focus (simp only [go_sem, *]; (try rfl); done)))
          | (apply x_condF; (focus (simp only [go_sem, *]; (try rfl); done)))
          | (apply x_guardS; (focus rfl); (fail_if_success (focus (show _ = some true; (focus (simp only [go_sem, *]; (try rfl); done))))); (focus (simp only [go_sem, *]; (try rfl); done)); all_goals (intro hb; try simp only [Bool.not_eq_true', Bool.not_eq_false'] at hb))
          | (apply x_condS; (focus (simp only [go_sem, *]; (try rfl); done)); all_goals (intro hb; try simp only [Bool.not_eq_true', Bool.not_eq_false'] at hb))
        apply f_retO (S2 := S.set a (.cells [.str t, .int .i64 (scP t [] : Nat), errV q3])) (L := [.arr 5 1 0 0 [.int .u8 0, .int .u8 0]])
        · (simp only [go_sem, *]; try rfl)
        · (simp only [go_sem, *]; try rfl)
        · simp
        · exact outSet2 hO (errOk_v q3)
        · (simp only [go_sem, *, Tryz.results86]; try rfl)
        · (simp only [go_sem, *]; try rfl)
        · (simp only [go_sem, *]; try rfl)
        · exact h q3 [] 0 List.nil_suffix
      | [b1], hs, hr, hb, hf, h0, h1 =>
        have h := h0 (by rw [escP_cons, if_neg c1, if_pos c2])
        have hb1 := byte1' w0 S a t [] b1 e ht he hal hr
        have hb2 := byte0' w0 S a t e he hal
        have hpu := fun S' R h => hPU S' b1 0 R (fun v hv => by rw [hx0] at hv; cases hv) (fun _ => h)
        have hfa := fun q => fail' w0 S a t (scP t [] : Nat) (errV q) (errOk_v q) hal
        clear h0 h1 hs hf hx0 c1 c2
        refine enter Tryz.func86 rfl (by decide +kernel) (by rw [Tryz.ntmps86]; simp) (by rw [Tryz.ntmps86]; decide) (fun hO => ?_); rw [Tryz.ntmps86]
        repeat' first
          | apply x_seq | apply x_skip | apply x_block | apply x_exit | apply x_ret | apply x_ops_nil | apply p_blk | apply p_exit_it | apply p_exit_hit | apply p_ret_it | apply p_ret_blk | apply p_panic_it | apply p_panic_blk | apply p_end
          | (apply p_exit_miss; (focus rfl))
          | (apply x_region; simp only [List.toList_toArray])
          | (apply x_step0; (focus rfl); (focus (simp only [go_sem, *, UInt8.ofNat_toNat]; (try rfl); done)); (focus rfl); simp only [putA])
          | (apply x_callA []; (focus (simp only [go_sem, *, UInt8.ofNat_toNat]; (try rfl); done)); (focus rfl); (focus (simp only [go_sem, *, UInt8.ofNat_toNat]; (try rfl); done)); (focus rfl); (iterate 2 (focus (simp only [go_sem, *, UInt8.ofNat_toNat]; (try rfl); done))); (first | (apply hb) | (apply hb1) | (apply hb2)); simp only [afterCall, putA])
          | (apply x_panic; (focus (simp only [go_sem, *, UInt8.ofNat_toNat]; (try rfl); done)); (focus rfl); (focus (simp only [go_sem, *, UInt8.ofNat_toNat]; (try rfl); done)))
          | (apply x_step; (iterate 2 (focus (simp only [go_sem, *, UInt8.ofNat_toNat]; (try rfl); done))); (focus rfl); simp only [putA])
          | (apply x_unwanted; (focus (simp only [go_sem, *, UInt8.ofNat_toNat]; (try rfl); done)); (focus rfl); simp only [putA])
          | (apply x_condT; (focus (simp only [go_sem, *, UInt8.ofNat_toNat]; (try rfl); done)))
          | (apply x_condF; (focus (simp only [go_sem, *, UInt8.ofNat_toNat]; (try rfl); done)))
          | (apply x_guardS; (focus rfl); (fail_if_success (focus (show _ = some true; (focus (simp only [go_sem, *, UInt8.ofNat_toNat]; (try rfl); done))))); (focus (simp only [go_sem, *, UInt8.ofNat_toNat]; (try rfl); done)); all_goals (intro hb; try simp only [Bool.not_eq_true', Bool.not_eq_false'] at hb))
          | (apply x_condS; (focus (simp only [go_sem, *, UInt8.ofNat_toNat]; (try rfl); done)); all_goals (intro hb; try simp only [Bool.not_eq_true', Bool.not_eq_false'] at hb))
        intro q2
        repeat' first
          | apply x_seq | apply x_skip | apply x_block | apply x_exit | apply x_ret | apply x_ops_nil | apply p_blk | apply p_exit_it | apply p_exit_hit | apply p_ret_it | apply p_ret_blk | apply p_panic_it | apply p_panic_blk | apply p_end
          | (apply p_exit_miss; (focus rfl))
          | (apply x_region; simp only [List.toList_toArray])
          | (apply x_step0; (focus rfl); (focus (simp only [go_sem, *, UInt8.ofNat_toNat]; (try rfl); done)); (focus rfl); simp only [putA])
          | (apply x_callA []; (focus (simp only [go_sem, *, UInt8.ofNat_toNat]; (try rfl); done)); (focus rfl); (focus (simp only [go_sem, *, UInt8.ofNat_toNat]; (try rfl); done)); (focus rfl); (iterate 2 (focus (simp only [go_sem, *, UInt8.ofNat_toNat]; (try rfl); done))); (first | (apply hpu)); simp only [afterCall, putA])
          | (apply x_panic; (focus (simp only [go_sem, *, UInt8.ofNat_toNat]; (try rfl); done)); (focus rfl); (focus (simp only [go_sem, *, UInt8.ofNat_toNat]; (try rfl); done)))
          | (apply x_step; (iterate 2 (focus (simp only [go_sem, *, UInt8.ofNat_toNat]; (try rfl); done))); (focus rfl); simp only [putA])
          | (apply x_unwanted; (focus (simp only [go_sem, *, UInt8.ofNat_toNat]; (try rfl); done)); (focus rfl); simp only [putA])
          | (apply x_condT; (focus (simp only [go_sem, *, UInt8.ofNat_toNat]; (try rfl); done)))
          | (apply x_condF; (focus (simp only [go_sem, *, UInt8.ofNat_toNat]; (try rfl); done)))
          | (apply x_guardS; (focus rfl); (fail_if_success (focus (show _ = some true; (focus (simp only [go_sem, *, UInt8.ofNat_toNat]; (try rfl); done))))); (focus (simp only [go_sem, *, UInt8.ofNat_toNat]; (try rfl); done)); all_goals (intro hb; try simp only [Bool.not_eq_true', Bool.not_eq_false'] at hb))
          | (apply x_condS; (focus (simp only [go_sem, *, UInt8.ofNat_toNat]; (try rfl); done)); all_goals (intro hb; try simp only [Bool.not_eq_true', Bool.not_eq_false'] at hb))
        intro te xe
        repeat' first
          | apply x_seq | apply x_skip | apply x_block | apply x_exit | apply x_ret | apply x_ops_nil | apply p_blk | apply p_exit_it | apply p_exit_hit | apply p_ret_it | apply p_ret_blk | apply p_panic_it | apply p_panic_blk | apply p_end
          | (apply p_exit_miss; (focus rfl))
          | (apply x_region; simp only [List.toList_toArray])
          | (apply x_step0; (focus rfl); (focus (simp only [go_sem, *]; (try rfl); done)); (focus rfl); simp only [putA])
          | (apply x_callA []; (focus (simp only [go_sem, *]; (try rfl); done)); (focus rfl); (focus (simp only [go_sem, *]; (try rfl); done)); (focus rfl); (iterate 2 (focus (simp only [go_sem, *]; (try rfl); done))); (first | (apply hfa)); simp only [afterCall, putA])
          | (apply x_panic; (focus (simp only [go_sem, *]; (try rfl); done)); (focus rfl); (focus (simp only [go_sem, *]; (try rfl); done)))
          | (apply x_step; (iterate 2 (focus (simp only [go_sem, *]; (try rfl); done))); (focus rfl); simp only [putA])
          | (apply x_unwanted; (focus (simp only [go_sem, *]; (try rfl); done)); (focus rfl); simp only [putA])
          | (apply x_condT; (focus (simp only [go_sem, *]; (try rfl); done)))
          | (apply x_condF; (focus (simp only [go_sem, *]; (try rfl); done)))
          | (apply x_guardS; (focus rfl); (fail_if_success (focus (show _ = some true; (focus (simp only [go_sem, *]; (try rfl); done))))); (focus (simp only [go_sem, *]; (try rfl); done)); all_goals (intro hb; try simp only [Bool.not_eq_true', Bool.not_eq_false'] at hb))
          | (apply x_condS; (focus (simp only [go_sem, *]; (try rfl); done)); all_goals (intro hb; try simp only [Bool.not_eq_true', Bool.not_eq_false'] at hb))
        intro q3
        repeat' first
          | apply x_seq | apply x_skip | apply x_block | apply x_exit | apply x_ret | apply x_ops_nil | apply p_blk | apply p_exit_it | apply p_exit_hit | apply p_ret_it | apply p_ret_blk | apply p_panic_it | apply p_panic_blk | apply p_end
          | (apply p_exit_miss; (focus rfl))
          | (apply x_region; simp only [List.toList_toArray])
          | (apply x_step0; (focus rfl); (focus (simp only [go_sem, *]; (try rfl); done)); (focus rfl); simp only [putA])
          | (apply x_panic; (focus (simp only [go_sem, *]; (try rfl); done)); (focus rfl); (focus (simp only [go_sem, *]; (try rfl); done)))
          | (apply x_step; (iterate 2 (focus (simp only [go_sem, *]; (try rfl); done))); (focus rfl); simp only [putA])
          | (apply x_unwanted; (focus (simp only [go_sem, *]; (try rfl); done)); (focus rfl); simp only [putA])
          | (apply x_condT; (focus (simp only [go_sem, *]; (try rfl); done)))
          | (apply x_condF; (focus (simp only [go_sem, *]; (try rfl); done)))
          | (apply x_guardS; (focus rfl); (fail_if_success (focus (show _ = some true; (focus (simp only [go_sem, *]; (try rfl); done))))); (focus (simp only [go_sem, *]; (try rfl); done)); all_goals (intro hb; try simp only [Bool.not_eq_true', Bool.not_eq_false'] at hb))
          | (apply x_condS; (focus (simp only [go_sem, *]; (try rfl); done)); all_goals (intro hb; try simp only [Bool.not_eq_true', Bool.not_eq_false'] at hb))
        apply f_retO (S2 := S.set a (.cells [.str t, .int .i64 (scP t [] : Nat), errV q3])) (L := [.arr 5 1 0 0 [.int .u8 b1.toNat, .int .u8 0]])
        · (simp only [go_sem, *]; try rfl)
        · (simp only [go_sem, *]; try rfl)
        · simp
        · exact outSet2 hO (errOk_v q3)
        · (simp only [go_sem, *, Tryz.results86]; try rfl)
        · (simp only [go_sem, *]; try rfl)
        · (simp only [go_sem, *]; try rfl)
        · exact h q3 [] 0 List.nil_suffix
      | b1 :: b2 :: r2, hs, hr, hb, hf, h0, h1 =>
        have hr2 : b2 :: r2 <:+ t := (suf_at hr rfl).1
        have hr3 : r2 <:+ t := (suf_at hr2 rfl).1
        have hb1 := byte1' w0 S a t (b2 :: r2) b1 e ht he hal hr
        have hb2 := byte1' w0 S a t r2 b2 e ht he hal hr2
        cases hv : hexV b1 b2 with
        | none =>
          have h := h0 (by rw [escP_cons, if_neg c1, if_pos c2]; simp only [hv]; rfl)
          have hpu := fun S' R h => hPU S' b1 b2 R (fun v hv' => by rw [hv] at hv'; cases hv') (fun _ => h)
          have hfa := fail' w0 S a t (scP t r2 : Nat) e he hal
          clear h0 h1 hs hf hx0 c1 c2 hr hr2 hv
          refine enter Tryz.func86 rfl (by decide +kernel) (by rw [Tryz.ntmps86]; simp) (by rw [Tryz.ntmps86]; decide) (fun hO => ?_); rw [Tryz.ntmps86]
          repeat' first
            | apply x_seq | apply x_skip | apply x_block | apply x_exit | apply x_ret | apply x_ops_nil | apply p_blk | apply p_exit_it | apply p_exit_hit | apply p_ret_it | apply p_ret_blk | apply p_panic_it | apply p_panic_blk | apply p_end
            | (apply p_exit_miss; (focus rfl))
            | (apply x_region; simp only [List.toList_toArray])
            | (apply x_step0; (focus rfl); (focus (simp only [go_sem, *, UInt8.ofNat_toNat]; (try rfl); done)); (focus rfl); simp only [putA])
            | (apply x_callA []; (focus (simp only [go_sem, *, UInt8.ofNat_toNat]; (try rfl); done)); (focus rfl); (focus (simp only [go_sem, *, UInt8.ofNat_toNat]; (try rfl); done)); (focus rfl); (iterate 2 (focus (simp only [go_sem, *, UInt8.ofNat_toNat]; (try rfl); done))); (first | (apply hb) | (apply hb1) | (apply hb2) | (apply hpu)); simp only [afterCall, putA])
            | (apply x_panic; (focus (simp only [go_sem, *, UInt8.ofNat_toNat]; (try rfl); done)); (focus rfl); (focus (simp only [go_sem, *, UInt8.ofNat_toNat]; (try rfl); done)))
            | (apply x_step; (iterate 2 (focus (simp only [go_sem, *, UInt8.ofNat_toNat]; (try rfl); done))); (focus rfl); simp only [putA])
            | (apply x_unwanted; (focus (simp only [go_sem, *, UInt8.ofNat_toNat]; (try rfl); done)); (focus rfl); simp only [putA])
            | (apply x_condT; (focus (simp only [go_sem, *, UInt8.ofNat_toNat]; (try rfl); done)))
            | (apply x_condF; (focus (simp only [go_sem, *, UInt8.ofNat_toNat]; (try rfl); done)))
            | (apply x_guardS; (focus rfl); (fail_if_success (focus (show _ = some true; (focus (simp only [go_sem, *, UInt8.ofNat_toNat]; (try rfl); done))))); (focus (simp only [go_sem, *, UInt8.ofNat_toNat]; (try rfl); done)); all_goals (intro hb; try simp only [Bool.not_eq_true', Bool.not_eq_false'] at hb))
            | (apply x_condS; (focus (simp only [go_sem, *, UInt8.ofNat_toNat]; (try rfl); done)); all_goals (intro hb; try simp only [Bool.not_eq_true', Bool.not_eq_false'] at hb))
          intro te xe
          repeat' first
            | apply x_seq | apply x_skip | apply x_block | apply x_exit | apply x_ret | apply x_ops_nil | apply p_blk | apply p_exit_it | apply p_exit_hit | apply p_ret_it | apply p_ret_blk | apply p_panic_it | apply p_panic_blk | apply p_end
            | (apply p_exit_miss; (focus rfl))
            | (apply x_region; simp only [List.toList_toArray])
            | (apply x_step0; (focus rfl); (focus (simp only [go_sem, *]; (try rfl); done)); (focus rfl); simp only [putA])
            | (apply x_callA []; (focus (simp only [go_sem, *]; (try rfl); done)); (focus rfl); (focus (simp only [go_sem, *]; (try rfl); done)); (focus rfl); (iterate 2 (focus (simp only [go_sem, *]; (try rfl); done))); (first | (apply hfa)); simp only [afterCall, putA])
            | (apply x_panic; (focus (simp only [go_sem, *]; (try rfl); done)); (focus rfl); (focus (simp only [go_sem, *]; (try rfl); done)))
            | (apply x_step; (iterate 2 (focus (simp only [go_sem, *]; (try rfl); done))); (focus rfl); simp only [putA])
            | (apply x_unwanted; (focus (simp only [go_sem, *]; (try rfl); done)); (focus rfl); simp only [putA])
            | (apply x_condT; (focus (simp only [go_sem, *]; (try rfl); done)))
            | (apply x_condF; (focus (simp only [go_sem, *]; (try rfl); done)))
            | (apply x_guardS; (focus rfl); (fail_if_success (focus (show _ = some true; (focus (simp only [go_sem, *]; (try rfl); done))))); (focus (simp only [go_sem, *]; (try rfl); done)); all_goals (intro hb; try simp only [Bool.not_eq_true', Bool.not_eq_false'] at hb))
            | (apply x_condS; (focus (simp only [go_sem, *]; (try rfl); done)); all_goals (intro hb; try simp only [Bool.not_eq_true', Bool.not_eq_false'] at hb))
          intro q3
          repeat' first
            | apply x_seq | apply x_skip | apply x_block | apply x_exit | apply x_ret | apply x_ops_nil | apply p_blk | apply p_exit_it | apply p_exit_hit | apply p_ret_it | apply p_ret_blk | apply p_panic_it | apply p_panic_blk | apply p_end
            | (apply p_exit_miss; (focus rfl))
            | (apply x_region; simp only [List.toList_toArray])
            | (apply x_step0; (focus rfl); (focus (simp only [go_sem, *]; (try rfl); done)); (focus rfl); simp only [putA])
            | (apply x_panic; (focus (simp only [go_sem, *]; (try rfl); done)); (focus rfl); (focus (simp only [go_sem, *]; (try rfl); done)))
            | (apply x_step; (iterate 2 (focus (simp only [go_sem, *]; (try rfl); done))); (focus rfl); simp only [putA])
            | (apply x_unwanted; (focus (simp only [go_sem, *]; (try rfl); done)); (focus rfl); simp only [putA])
            | (apply x_condT; (focus (simp only [go_sem, *]; (try rfl); done)))
            | (apply x_condF; (focus (simp only [go_sem, *]; (try rfl); done)))
            | (apply x_guardS; (focus rfl); (fail_if_success (focus (show _ = some true; (focus (simp only [go_sem, *]; (try rfl); done))))); (focus (simp only [go_sem, *]; (try rfl); done)); all_goals (intro hb; try simp only [Bool.not_eq_true', Bool.not_eq_false'] at hb))
            | (apply x_condS; (focus (simp only [go_sem, *]; (try rfl); done)); all_goals (intro hb; try simp only [Bool.not_eq_true', Bool.not_eq_false'] at hb))
          apply f_retO (S2 := S.set a (.cells [.str t, .int .i64 (scP t r2 : Nat), errV q3])) (L := [.arr 5 1 0 0 [.int .u8 b1.toNat, .int .u8 b2.toNat]])
          · (simp only [go_sem, *]; try rfl)
          · (simp only [go_sem, *]; try rfl)
          · simp
          · exact outSet2 hO (errOk_v q3)
          · (simp only [go_sem, *, Tryz.results86]; try rfl)
          · (simp only [go_sem, *]; try rfl)
          · (simp only [go_sem, *]; try rfl)
          · exact h q3 r2 0 hr3
        | some v =>
          have hvl := hexV_lt hv
          have h := h1 (UInt8.ofNat v) r2 (by rw [escP_cons, if_neg c1, if_pos c2]; simp only [hv]; rfl)
          have hvt : (UInt8.ofNat v).toNat = v := by rw [UInt8.toNat_ofNat']; omega
          rw [hvt] at h
          have hpu := fun S' R (h : R (.ret (.tup [.int .u64 v, .inil])) S') => hPU S' b1 b2 R (fun v' hv' => by rw [hv] at hv'; cases hv'; exact h) (fun hn => by rw [hv] at hn; cases hn)
          have hw8 : IntKind.u8.wrap (v : Int) = v := IntWalk.u8_in _ (by omega)
          clear h0 h1 hs hf hx0 c1 c2 hr hr2 hv hvt hvl
          refine enter Tryz.func86 rfl (by decide +kernel) (by rw [Tryz.ntmps86]; simp) (by rw [Tryz.ntmps86]; decide) (fun hO => ?_); rw [Tryz.ntmps86]
          repeat' first
            | apply x_seq | apply x_skip | apply x_block | apply x_exit | apply x_ret | apply x_ops_nil | apply p_blk | apply p_exit_it | apply p_exit_hit | apply p_ret_it | apply p_ret_blk | apply p_panic_it | apply p_panic_blk | apply p_end
            | (apply p_exit_miss; (focus rfl))
            | (apply x_region; simp only [List.toList_toArray])
            | (apply x_step0; (focus rfl); (focus (simp only [go_sem, *, UInt8.ofNat_toNat]; (try rfl); done)); (focus rfl); simp only [putA])
            | (apply x_callA []; (focus (simp only [go_sem, *, UInt8.ofNat_toNat]; (try rfl); done)); (focus rfl); (focus (simp only [go_sem, *, UInt8.ofNat_toNat]; (try rfl); done)); (focus rfl); (iterate 2 (focus (simp only [go_sem, *, UInt8.ofNat_toNat]; (try rfl); done))); (first | (apply hb) | (apply hb1) | (apply hb2) | (apply hpu)); simp only [afterCall, putA])
            | (apply x_panic; (focus (simp only [go_sem, *, UInt8.ofNat_toNat]; (try rfl); done)); (focus rfl); (focus (simp only [go_sem, *, UInt8.ofNat_toNat]; (try rfl); done)))
            | (apply x_step; (iterate 2 (focus (simp only [go_sem, *, UInt8.ofNat_toNat]; (try rfl); done))); (focus rfl); simp only [putA])
            | (apply x_unwanted; (focus (simp only [go_sem, *, UInt8.ofNat_toNat]; (try rfl); done)); (focus rfl); simp only [putA])
            | (apply x_condT; (focus (simp only [go_sem, *, UInt8.ofNat_toNat]; (try rfl); done)))
            | (apply x_condF; (focus (simp only [go_sem, *, UInt8.ofNat_toNat]; (try rfl); done)))
            | (apply x_guardS; (focus rfl); (fail_if_success (focus (show _ = some true; (focus (simp only [go_sem, *, UInt8.ofNat_toNat]; (try rfl); done))))); (focus (simp only [go_sem, *, UInt8.ofNat_toNat]; (try rfl); done)); all_goals (intro hb; try simp only [Bool.not_eq_true', Bool.not_eq_false'] at hb))
            | (apply x_condS; (focus (simp only [go_sem, *, UInt8.ofNat_toNat]; (try rfl); done)); all_goals (intro hb; try simp only [Bool.not_eq_true', Bool.not_eq_false'] at hb))
          apply f_retO (S2 := S.set a (.cells [.str t, .int .i64 (scP t r2 : Nat), e])) (L := [.arr 5 1 0 0 [.int .u8 b1.toNat, .int .u8 b2.toNat]])
          · (simp only [go_sem, *]; try rfl)
          · (simp only [go_sem, *]; try rfl)
          · simp
          · exact outSet2 hO he
          · (simp only [go_sem, *, Tryz.results86]; try rfl)
          · (simp only [go_sem, *]; try rfl)
          · (simp only [go_sem, *]; try rfl)
          · exact h
    · have d3 : ((c.toNat : Int) == 120) = false := by rw [beq_eq_false_iff_ne]; omega
      have h := h0 (by rw [escP_cons, if_neg c1, if_neg c2])
      clear h0 h1 c1 c2 hs
      refine enter Tryz.func86 rfl (by decide +kernel) (by rw [Tryz.ntmps86]; simp) (by rw [Tryz.ntmps86]; decide) (fun hO => ?_); rw [Tryz.ntmps86]
      repeat' first
        | apply x_seq | apply x_skip | apply x_block | apply x_exit | apply x_ret | apply x_ops_nil | apply p_blk | apply p_exit_it | apply p_exit_hit | apply p_ret_it | apply p_ret_blk | apply p_panic_it | apply p_panic_blk | apply p_end
        | (apply p_exit_miss; (focus rfl))
        | (apply x_region; simp only [List.toList_toArray])
        | (apply x_step0; (focus rfl); (focus (simp only [go_sem, *]; (try rfl); done)); (focus rfl); simp only [putA])
        | (apply x_callA []; (focus (simp only [go_sem, *]; (try rfl); done)); (focus rfl); (focus (simp only [go_sem, *]; (try rfl); done)); (focus rfl); (iterate 2 (focus (simp only [go_sem, *]; (try rfl); done))); (first | (apply hb) | (apply hf)); simp only [afterCall, putA])
        | (apply x_panic; (focus (simp only [go_sem, *]; (try rfl); done)); (focus rfl); (focus (simp only [go_sem, *]; (try rfl); done)))
        | (apply x_step; (iterate 2 (focus (simp only [go_sem, *]; (try rfl); done))); (focus rfl); simp only [putA])
        | (apply x_unwanted; (focus (simp only [go_sem, *]; (try rfl); done)); (focus rfl); simp only [putA])
        | (apply x_condT; (focus (simp only [go_sem, *]; (try rfl); done)))
        | (apply x_condF; (focus (simp only [go_sem, *]; (try rfl); done)))
        | (apply x_guardS; (focus rfl); (fail_if_success (focus (show _ = some true; (focus (simp only [go_sem, *]; (try rfl); done))))); (focus (simp only [go_sem, *]; (try rfl); done)); all_goals (intro hb; try simp only [Bool.not_eq_true', Bool.not_eq_false'] at hb))
        | (apply x_condS; (focus (simp only [go_sem, *]; (try rfl); done)); all_goals (intro hb; try simp only [Bool.not_eq_true', Bool.not_eq_false'] at hb))
      intro q
      repeat' first
        | apply x_seq | apply x_skip | apply x_block | apply x_exit | apply x_ret | apply x_ops_nil | apply p_blk | apply p_exit_it | apply p_exit_hit | apply p_ret_it | apply p_ret_blk | apply p_panic_it | apply p_panic_blk | apply p_end
        | (apply p_exit_miss; (focus rfl))
        | (apply x_region; simp only [List.toList_toArray])
        | (apply x_step0; (focus rfl); (focus (simp only [go_sem, *]; (try rfl); done)); (focus rfl); simp only [putA])
        | (apply x_panic; (focus (simp only [go_sem, *]; (try rfl); done)); (focus rfl); (focus (simp only [go_sem, *]; (try rfl); done)))
        | (apply x_step; (iterate 2 (focus (simp only [go_sem, *]; (try rfl); done))); (focus rfl); simp only [putA])
        | (apply x_unwanted; (focus (simp only [go_sem, *]; (try rfl); done)); (focus rfl); simp only [putA])
        | (apply x_condT; (focus (simp only [go_sem, *]; (try rfl); done)))
        | (apply x_condF; (focus (simp only [go_sem, *]; (try rfl); done)))
        | (apply x_guardS; (focus rfl); (fail_if_success (focus (show _ = some true; (focus (simp only [go_sem, *]; (try rfl); done))))); (focus (simp only [go_sem, *]; (try rfl); done)); all_goals (intro hb; try simp only [Bool.not_eq_true', Bool.not_eq_false'] at hb))
        | (apply x_condS; (focus (simp only [go_sem, *]; (try rfl); done)); all_goals (intro hb; try simp only [Bool.not_eq_true', Bool.not_eq_false'] at hb))
      apply f_retO (S2 := S.set a (.cells [.str t, .int .i64 (scP t r : Nat), errV q])) (L := [])
      · (simp only [go_sem, *]; try rfl)
      · (simp only [go_sem, *]; try rfl)
      · simp
      · exact outSet2 hO (errOk_v q)
      · (simp only [go_sem, *, Tryz.results86]; try rfl)
      · (simp only [go_sem, *]; try rfl)
      · (simp only [go_sem, *]; try rfl)
      · exact h q r 0 hr
end Go.Proofs.YtcobfilbmfokoaaGreatDoor
namespace Go.Proofs.YtcobfilbmfokoaaGreatDoor
open Go Go.Fen
set_option linter.unusedSimpArgs false
set_option linter.unusedVariables false
attribute [local irreducible] RunX WP ACall AnyP OpA ProtL
set_option maxRecDepth 8000
section
variable (w0 : World) (S : List Blk) (a : Nat) (t : List UInt8)
theorem setL {S L : List Blk} {a : Nat} (hal : a < S.length) (B : Blk) : (S ++ L).set a B = S.set a B ++ L := List.set_append_left _ _ hal
theorem byte1L (r : List UInt8) (c : UInt8) (e : AV) (L : List Blk) (ht : t.length ≤ 10000000) (he : ErrOk e) (hal : a < S.length) (hs : c :: r <:+ t) (R : AOut → List Blk → Prop) (h : R (.ret (.int .u8 (c.toNat : Nat))) (S.set a (.cells [.str t, .int .i64 (scP t r : Nat), e]) ++ L)) :
    ACall Tryz.prog w0 85 [.own a 0] (S.set a (.cells [.str t, .int .i64 (scP t (c :: r) : Nat), e]) ++ L) R := by
  have := byte1' w0 (S ++ L) a t r c e ht he (by simp; omega) hs R (by rw [setL hal]; exact h)
  rwa [setL hal] at this
theorem byte0L (e : AV) (L : List Blk) (he : ErrOk e) (hal : a < S.length) (R : AOut → List Blk → Prop) (h : ∀ q, R (.ret (.int .u8 0)) (S.set a (.cells [.str t, .int .i64 (scP t [] : Nat), errV q]) ++ L)) :
    ACall Tryz.prog w0 85 [.own a 0] (S.set a (.cells [.str t, .int .i64 (scP t [] : Nat), e]) ++ L) R := by
  have := byte0' w0 (S ++ L) a t e he (by simp; omega) R (fun q => by rw [setL hal]; exact h q)
  rwa [setL hal] at this
theorem escL (hPU : PU16 w0) (s : List UInt8) (e : AV) (L : List Blk) (ht : t.length ≤ 10000000) (he : ErrOk e) (hal : a < S.length) (hs : s <:+ t) (R : AOut → List Blk → Prop)
    (h1 : ∀ v r, escP s = some (v, r) → R (.ret (.int .u8 (v.toNat : Nat))) (S.set a (.cells [.str t, .int .i64 (scP t r : Nat), e]) ++ L))
    (h0 : escP s = none → ∀ q r x, r <:+ t → R (.ret (.int .u8 x)) (S.set a (.cells [.str t, .int .i64 (scP t r : Nat), errV q]) ++ L)) :
    ACall Tryz.prog w0 86 [.own a 0] (S.set a (.cells [.str t, .int .i64 (scP t s : Nat), e]) ++ L) R := by
  have := cEsc w0 hPU (S ++ L) a t s e ht he (by simp; omega) hs R (fun v r hh => by rw [setL hal]; exact h1 v r hh) (fun hh q r x hr => by rw [setL hal]; exact h0 hh q r x hr)
  rwa [setL hal] at this
theorem skip' (s : List UInt8) (e : AV) (ht : t.length ≤ 10000000) (he : ErrOk e) (hal : a < S.length) (hs : s <:+ t) (R : AOut → List Blk → Prop) (h : R (.ret (.bool (decide (skipC s = [])))) (S.set a (.cells [.str t, .int .i64 (scP t (skipC s) : Nat), e]))) :
    ACall Tryz.prog w0 62 [.own a 0] (S.set a (.cells [.str t, .int .i64 (scP t s : Nat), e])) R :=
  cSkip w0 _ a t s e ht he (by simp [hal]) hs R (by rw [List.set_set]; exact h)
end
theorem unq_92 (acc r : List UInt8) (c : UInt8) (hc : c.toNat = 92) : unqC acc (c :: r) = match escP r with
    | none => none
    | some (v, r2) => unqC (acc ++ [v]) r2 := by
  rw [unqC_cons, if_neg (by omega), if_neg (by omega)]
  cases r with
  | nil => rfl
  | cons d s2 =>
    rw [escP_cons]
    simp only
    by_cases h1 : d.toNat = 34 ∨ d.toNat = 92
    · rw [if_pos h1, if_pos h1]
    · rw [if_neg h1, if_neg h1]
      by_cases h2 : d.toNat = 120
      · rw [if_pos h2, if_pos h2]
        match s2 with
        | [] => rfl
        | [b1] => rfl
        | b1 :: b2 :: s3 =>
          simp only
          cases hexV b1 b2 <;> rfl
      · rw [if_neg h2, if_neg h2]
theorem escP_suf {s r : List UInt8} {v : UInt8} (h : escP s = some (v, r)) : r <:+ s ∧ r.length < s.length := by
  cases s with
  | nil => cases h
  | cons c s2 =>
    rw [escP_cons] at h
    split at h
    · cases h; exact ⟨List.suffix_cons _ _, by simp⟩
    · split at h
      · match s2, h with
        | b1 :: b2 :: s3, h =>
          simp only [Option.map_eq_some_iff] at h
          obtain ⟨x, _, hx⟩ := h
          cases hx
          exact ⟨⟨[c, b1, b2], rfl⟩, by simp; omega⟩
        | [], h => cases h
        | [b1], h => cases h
      · cases h
set_option maxHeartbeats 8000000 in
theorem cQuoted (w0 : World) (hPU : PU16 w0) (S : List Blk) (a : Nat) (t s : List UInt8) (ht : t.length ≤ 10000000) (hal : a < S.length) (hs : s <:+ t) (R : AOut → List Blk → Prop)
    (h1 : ∀ x r, quoC s = some (x, r) → r <:+ t → R (.ret (.str x)) (S.set a (.cells [.str t, .int .i64 (scP t r : Nat), .inil])))
    (h0 : quoC s = none → ∀ q r, r <:+ t → R (.ret (.str [])) (S.set a (.cells [.str t, .int .i64 (scP t r : Nat), errV q]))) :
    ACall Tryz.prog w0 64 [.own a 0] (S.set a (.cells [.str t, .int .i64 (scP t s : Nat), .inil])) R := by
  have hgs : ∀ x e, (S.set a (.cells [.str t, .int .i64 x, e]))[a]? = some (.cells [.str t, .int .i64 x, e]) := fun x e => by simp [hal]
  have hgl : ∀ x e L, (S.set a (.cells [.str t, .int .i64 x, e]) ++ L)[a]? = some (.cells [.str t, .int .i64 x, e]) := fun x e L => by
    rw [List.getElem?_append_left (by simpa using hal)]; simp [hal]
  have hsk := skip' w0 S a t s .inil ht (.inl rfl) hal hs
  have hst := suf_skip hs
  have hi0 : ErrOk .inil := .inl rfl
  unfold quoC at h1 h0
  cases hq : skipC s with
  | nil =>
    rw [hq] at hsk h0
    have h := h0 rfl
    have hb := byte0' w0 S a t .inil hi0 hal
    have hf := fun q => fail0' w0 S a t (scP t [] : Nat) (errV q) (errOk_v q) hal
    simp only [errV] at hf hb
    clear h1 h0 hs hst hq
    refine enter Tryz.func64 rfl (by decide +kernel) (by rw [Tryz.ntmps64]; simp) (by rw [Tryz.ntmps64]; decide) (fun hO => ?_); rw [Tryz.ntmps64]
    repeat' first
      | apply x_seq | apply x_skip | apply x_block | apply x_exit | apply x_ret | apply x_ops_nil | apply p_blk | apply p_exit_it | apply p_exit_hit | apply p_ret_it | apply p_ret_blk | apply p_panic_it | apply p_panic_blk | apply p_end
      | (apply p_exit_miss; (focus rfl))
      | (apply x_region; simp only [List.toList_toArray])
      | (apply x_step0; (focus rfl); (focus (simp only [go_sem, *]; (try rfl); done)); (focus rfl); simp only [putA])
      | (apply x_callA []; (focus (simp only [go_sem, *]; (try rfl); done)); (focus rfl); (focus (simp only [go_sem, *]; (try rfl); done)); (focus rfl); (iterate 2 (focus (simp only [go_sem, *]; (try rfl); done))); (first | (apply hsk) | (apply hb)); simp only [afterCall, putA])
      | (apply x_panic; (focus (simp only [go_sem, *]; (try rfl); done)); (focus rfl); (focus (simp only [go_sem, *]; (try rfl); done)))
      | (apply x_step; (iterate 2 (focus (simp only [go_sem, *]; (try rfl); done))); (focus rfl); simp only [putA])
      | (apply x_unwanted; (focus (simp only [go_sem, *]; (try rfl); done)); (focus rfl); simp only [putA])
      | (apply x_condT; (focus (simp only [go_sem, *]; (try rfl); done)))
      | (apply x_condF; (focus (simp only [go_sem, *]; (try rfl); done)))
      | (apply x_guardS; (focus rfl); (fail_if_success (focus (show _ = some true; (focus (simp only [go_sem, *]; (try rfl); done))))); (focus (simp only [go_sem, *]; (try rfl); done)); all_goals (intro hb; try simp only [Bool.not_eq_true', Bool.not_eq_false'] at hb))
      | (apply x_condS; (focus (simp only [go_sem, *]; (try rfl); done)); all_goals (intro hb; try simp only [Bool.not_eq_true', Bool.not_eq_false'] at hb))
    intro q
    repeat' first
      | apply x_seq | apply x_skip | apply x_block | apply x_exit | apply x_ret | apply x_ops_nil | apply p_blk | apply p_exit_it | apply p_exit_hit | apply p_ret_it | apply p_ret_blk | apply p_panic_it | apply p_panic_blk | apply p_end
      | (apply p_exit_miss; (focus rfl))
      | (apply x_region; simp only [List.toList_toArray])
      | (apply x_step0; (focus rfl); (focus (simp only [go_sem, *]; (try rfl); done)); (focus rfl); simp only [putA])
      | (apply x_callA []; (focus (simp only [go_sem, *]; (try rfl); done)); (focus rfl); (focus (simp only [go_sem, *]; (try rfl); done)); (focus rfl); (iterate 2 (focus (simp only [go_sem, *]; (try rfl); done))); (first | (apply hf)); simp only [afterCall, putA])
      | (apply x_panic; (focus (simp only [go_sem, *]; (try rfl); done)); (focus rfl); (focus (simp only [go_sem, *]; (try rfl); done)))
      | (apply x_step; (iterate 2 (focus (simp only [go_sem, *]; (try rfl); done))); (focus rfl); simp only [putA])
      | (apply x_unwanted; (focus (simp only [go_sem, *]; (try rfl); done)); (focus rfl); simp only [putA])
      | (apply x_condT; (focus (simp only [go_sem, *]; (try rfl); done)))
      | (apply x_condF; (focus (simp only [go_sem, *]; (try rfl); done)))
      | (apply x_guardS; (focus rfl); (fail_if_success (focus (show _ = some true; (focus (simp only [go_sem, *]; (try rfl); done))))); (focus (simp only [go_sem, *]; (try rfl); done)); all_goals (intro hb; try simp only [Bool.not_eq_true', Bool.not_eq_false'] at hb))
      | (apply x_condS; (focus (simp only [go_sem, *]; (try rfl); done)); all_goals (intro hb; try simp only [Bool.not_eq_true', Bool.not_eq_false'] at hb))
    intro q2
    repeat' first
      | apply x_seq | apply x_skip | apply x_block | apply x_exit | apply x_ret | apply x_ops_nil | apply p_blk | apply p_exit_it | apply p_exit_hit | apply p_ret_it | apply p_ret_blk | apply p_panic_it | apply p_panic_blk | apply p_end
      | (apply p_exit_miss; (focus rfl))
      | (apply x_region; simp only [List.toList_toArray])
      | (apply x_step0; (focus rfl); (focus (simp only [go_sem, *]; (try rfl); done)); (focus rfl); simp only [putA])
      | (apply x_panic; (focus (simp only [go_sem, *]; (try rfl); done)); (focus rfl); (focus (simp only [go_sem, *]; (try rfl); done)))
      | (apply x_step; (iterate 2 (focus (simp only [go_sem, *]; (try rfl); done))); (focus rfl); simp only [putA])
      | (apply x_unwanted; (focus (simp only [go_sem, *]; (try rfl); done)); (focus rfl); simp only [putA])
      | (apply x_condT; (focus (simp only [go_sem, *]; (try rfl); done)))
      | (apply x_condF; (focus (simp only [go_sem, *]; (try rfl); done)))
      | (apply x_guardS; (focus rfl); (fail_if_success (focus (show _ = some true; (focus (simp only [go_sem, *]; (try rfl); done))))); (focus (simp only [go_sem, *]; (try rfl); done)); all_goals (intro hb; try simp only [Bool.not_eq_true', Bool.not_eq_false'] at hb))
      | (apply x_condS; (focus (simp only [go_sem, *]; (try rfl); done)); all_goals (intro hb; try simp only [Bool.not_eq_true', Bool.not_eq_false'] at hb))
      | apply x_loop | apply x_lp
    apply f_retO (S2 := S.set a (.cells [.str t, .int .i64 (scP t [] : Nat), errV q2])) (L := [])
    · (simp only [go_sem, *]; try rfl)
    · (simp only [go_sem, *]; try rfl)
    · simp
    · exact outSet2 hO (errOk_v q2)
    · (simp only [go_sem, *, Tryz.results64]; try rfl)
    · (simp only [go_sem, *]; try rfl)
    · (simp only [go_sem, *]; try rfl)
    · exact h q2 [] List.nil_suffix
  | cons c r =>
    rw [hq] at hsk h1 h0 hst
    have hr := (suf_at hst rfl).1
    have hb := byte1' w0 S a t r c .inil ht hi0 hal hst
    by_cases hc : c.toNat = 34
    · simp only [if_pos hc] at h1 h0
      have d1 : ((c.toNat : Int) == 34) = true := by rw [hc]; rfl
      have d2 : ((c.toNat : Int) != 34) = false := by rw [bne, d1]; rfl
      clear hq hst hs
      refine enter Tryz.func64 rfl (by decide +kernel) (by rw [Tryz.ntmps64]; simp) (by rw [Tryz.ntmps64]; decide) (fun hO => ?_); rw [Tryz.ntmps64]
      repeat' first
        | apply x_seq | apply x_skip | apply x_block | apply x_exit | apply x_ret | apply x_ops_nil | apply p_blk | apply p_exit_it | apply p_exit_hit | apply p_ret_it | apply p_ret_blk | apply p_panic_it | apply p_panic_blk | apply p_end
        | (apply p_exit_miss; (focus rfl))
        | (apply x_region; simp only [List.toList_toArray])
        | (apply x_step0; (focus rfl); (focus (simp only [go_sem, *]; (try rfl); done)); (focus rfl); simp only [putA])
        | (apply x_callA []; (focus (simp only [go_sem, *]; (try rfl); done)); (focus rfl); (focus (simp only [go_sem, *]; (try rfl); done)); (focus rfl); (iterate 2 (focus (simp only [go_sem, *]; (try rfl); done))); (first | (apply hsk) | (apply hb)); simp only [afterCall, putA])
        | (apply x_panic; (focus (simp only [go_sem, *]; (try rfl); done)); (focus rfl); (focus (simp only [go_sem, *]; (try rfl); done)))
        | (apply x_step; (iterate 2 (focus (simp only [go_sem, *]; (try rfl); done))); (focus rfl); simp only [putA])
        | (apply x_unwanted; (focus (simp only [go_sem, *]; (try rfl); done)); (focus rfl); simp only [putA])
        | (apply x_condT; (focus (simp only [go_sem, *]; (try rfl); done)))
        | (apply x_condF; (focus (simp only [go_sem, *]; (try rfl); done)))
        | (apply x_guardS; (focus rfl); (fail_if_success (focus (show _ = some true; (focus (simp only [go_sem, *]; (try rfl); done))))); (focus (simp only [go_sem, *]; (try rfl); done)); all_goals (intro hb; try simp only [Bool.not_eq_true', Bool.not_eq_false'] at hb))
        | (apply x_condS; (focus (simp only [go_sem, *]; (try rfl); done)); all_goals (intro hb; try simp only [Bool.not_eq_true', Bool.not_eq_false'] at hb))
      refine x_thaw (t := 4) 5 1 (by (simp only [go_sem, *]; try rfl)) (by decide) ?_
      simp only [go_sem, *]
      refine x_ind (fun (g : Option (List UInt8 × List UInt8 × Nat)) env S' => match g with
        | some (acc, r', k) => r' <:+ t ∧ unqC acc r' = unqC [] r ∧ acc.length + r'.length ≤ t.length ∧ env 1000000 = .dfr [] ∧ env 0 = .own a 0 ∧ env 3 = .fn (.func 85) [.own a 0] [] ∧ env 4 = .sown S.length k acc.length ∧ S' = S.set a (.cells [.str t, .int .i64 (scP t r' : Nat), .inil]) ++ [.arr 5 1 0 k (acc.map bAV)]
        | none => unqC [] r = none ∧ env 1000000 = .dfr [] ∧ env 0 = .own a 0 ∧ ∃ q r' L, r' <:+ t ∧ S' = S.set a (.cells [.str t, .int .i64 (scP t r' : Nat), errV q]) ++ L) (fun g => match g with
        | some (_, r', _) => r'.length + 1
        | none => 0) (some ([], r, 0)) ?_ ?_
      · exact ⟨hr, rfl, by simpa using suf_le hr, by (simp only [go_sem, *]; try rfl), by (simp only [go_sem, *]; try rfl), by (simp only [go_sem, *]; try rfl), by (simp only [go_sem, *]; try rfl), rfl⟩
      · intro g env S' hg IH
        have HI := Lib.hid IH
        have H1 := Lib.hid h1
        have H0 := Lib.hid h0
        clear IH h1 h0 hsk hb
        match g, hg, HI with
        | none, hg, HI =>
          obtain ⟨hn, e0, f0, q, r', L, hr', rfl⟩ := hg
          have h := H0.out hn q r' hr'
          clear HI hn
          simp only [errV] at h ⊢
          repeat' first
            | apply x_seq | apply x_skip | apply x_block | apply x_exit | apply x_ret | apply x_ops_nil | apply p_blk | apply p_exit_it | apply p_exit_hit | apply p_ret_it | apply p_ret_blk | apply p_panic_it | apply p_panic_blk | apply p_end
            | (apply p_exit_miss; (focus rfl))
            | (apply x_region; simp only [List.toList_toArray])
            | (apply x_step0; (focus rfl); (focus (simp only [go_sem, *]; (try rfl); done)); (focus rfl); simp only [putA])
            | (apply x_panic; (focus (simp only [go_sem, *]; (try rfl); done)); (focus rfl); (focus (simp only [go_sem, *]; (try rfl); done)))
            | (apply x_step; (iterate 2 (focus (simp only [go_sem, *]; (try rfl); done))); (focus rfl); simp only [putA])
            | (apply x_unwanted; (focus (simp only [go_sem, *]; (try rfl); done)); (focus rfl); simp only [putA])
            | (apply x_condT; (focus (simp only [go_sem, *]; (try rfl); done)))
            | (apply x_condF; (focus (simp only [go_sem, *]; (try rfl); done)))
            | (apply x_guardS; (focus rfl); (fail_if_success (focus (show _ = some true; (focus (simp only [go_sem, *]; (try rfl); done))))); (focus (simp only [go_sem, *]; (try rfl); done)); all_goals (intro hb; try simp only [Bool.not_eq_true', Bool.not_eq_false'] at hb))
            | (apply x_condS; (focus (simp only [go_sem, *]; (try rfl); done)); all_goals (intro hb; try simp only [Bool.not_eq_true', Bool.not_eq_false'] at hb))
          apply f_retO (S2 := S.set a (.cells [.str t, .int .i64 (scP t r' : Nat), .ifc 70 (.pro [.int .i64 q])])) (L := L)
          · (simp only [go_sem, *]; try rfl)
          · (simp only [go_sem, *]; try rfl)
          · simp
          · exact outSet2 hO (errOk_v q)
          · (simp only [go_sem, *, Tryz.results64]; try rfl)
          · (simp only [go_sem, *]; try rfl)
          · (simp only [go_sem, *]; try rfl)
          · exact h
        | some (acc, r', k), hg, HI =>
          obtain ⟨hr', hu, hl, e0, f0, f3, f4, rfl⟩ := hg
          have Hn := Lib.hid hu
          have okB := bAV_ok acc
          simp only [okEls, AV.cells] at okB
          have hgn : ∀ x e B, (S.set a (.cells [.str t, .int .i64 x, e]) ++ [B])[S.length]? = some B := fun x e B => by
            rw [List.getElem?_append_right (by simp)]; simp
          have hgm : ∀ x e B C, (S.set a (.cells [.str t, .int .i64 x, e]) ++ [B, C])[S.length]? = some B := fun x e B C => by
            rw [List.getElem?_append_right (by simp)]; simp
          have hgp : ∀ x e B C, (S.set a (.cells [.str t, .int .i64 x, e]) ++ [B, C])[S.length + 1]? = some C := fun x e B C => by
            rw [List.getElem?_append_right (by simp)]; simp
          have hsm : ∀ x e B C D, (S.set a (.cells [.str t, .int .i64 x, e]) ++ [B, C]).set S.length D = S.set a (.cells [.str t, .int .i64 x, e]) ++ [D, C] := fun x e B C D => by
            rw [List.set_append_right _ _ (by simp)]; simp
          have hmb : (List.map bAV acc).length = acc.length := by simp
          have hb1 : (acc.length + 1) * 1 ≤ 140737488355328 := by omega
          match r', hr', hu, hl, Hn, HI with
          | [], hr', hu, hl, Hn, HI =>
            have hn : unqC [] r = none := by rw [← hu]; rfl
            have Hn := Lib.hid hn
            have hb := byte0L w0 S a t .inil [.arr 5 1 0 k (acc.map bAV)] hi0 hal
            have hf := fun q => fail' w0 S a t (scP t [] : Nat) (errV q) (errOk_v q) hal [.arr 5 1 0 k (acc.map bAV)]
            clear hu hl hn
            repeat' first
              | apply x_seq | apply x_skip | apply x_block | apply x_exit | apply x_ret | apply x_ops_nil | apply p_blk | apply p_exit_it | apply p_exit_hit | apply p_ret_it | apply p_ret_blk | apply p_panic_it | apply p_panic_blk | apply p_end
              | (apply p_exit_miss; (focus rfl))
              | (apply x_region; simp only [List.toList_toArray])
              | (apply x_step0; (focus rfl); (focus (simp only [go_sem, *]; (try rfl); done)); (focus rfl); simp only [putA])
              | (apply x_callA []; (focus (simp only [go_sem, *]; (try rfl); done)); (focus rfl); (focus (simp only [go_sem, *]; (try rfl); done)); (focus rfl); (iterate 2 (focus (simp only [go_sem, *]; (try rfl); done))); (first | (apply hb)); simp only [afterCall, putA])
              | (apply x_panic; (focus (simp only [go_sem, *]; (try rfl); done)); (focus rfl); (focus (simp only [go_sem, *]; (try rfl); done)))
              | (apply x_step; (iterate 2 (focus (simp only [go_sem, *]; (try rfl); done))); (focus rfl); simp only [putA])
              | (apply x_unwanted; (focus (simp only [go_sem, *]; (try rfl); done)); (focus rfl); simp only [putA])
              | (apply x_condT; (focus (simp only [go_sem, *]; (try rfl); done)))
              | (apply x_condF; (focus (simp only [go_sem, *]; (try rfl); done)))
              | (apply x_guardS; (focus rfl); (fail_if_success (focus (show _ = some true; (focus (simp only [go_sem, *]; (try rfl); done))))); (focus (simp only [go_sem, *]; (try rfl); done)); all_goals (intro hb; try simp only [Bool.not_eq_true', Bool.not_eq_false'] at hb))
              | (apply x_condS; (focus (simp only [go_sem, *]; (try rfl); done)); all_goals (intro hb; try simp only [Bool.not_eq_true', Bool.not_eq_false'] at hb))
            intro q
            repeat' first
              | apply x_seq | apply x_skip | apply x_block | apply x_exit | apply x_ret | apply x_ops_nil | apply p_blk | apply p_exit_it | apply p_exit_hit | apply p_ret_it | apply p_ret_blk | apply p_panic_it | apply p_panic_blk | apply p_end
              | (apply p_exit_miss; (focus rfl))
              | (apply x_region; simp only [List.toList_toArray])
              | (apply x_step0; (focus rfl); (focus (simp only [go_sem, *]; (try rfl); done)); (focus rfl); simp only [putA])
              | (apply x_callA []; (focus (simp only [go_sem, *]; (try rfl); done)); (focus rfl); (focus (simp only [go_sem, *]; (try rfl); done)); (focus rfl); (iterate 2 (focus (simp only [go_sem, *]; (try rfl); done))); (first | (apply hf)); simp only [afterCall, putA])
              | (apply x_panic; (focus (simp only [go_sem, *]; (try rfl); done)); (focus rfl); (focus (simp only [go_sem, *]; (try rfl); done)))
              | (apply x_step; (iterate 2 (focus (simp only [go_sem, *]; (try rfl); done))); (focus rfl); simp only [putA])
              | (apply x_unwanted; (focus (simp only [go_sem, *]; (try rfl); done)); (focus rfl); simp only [putA])
              | (apply x_condT; (focus (simp only [go_sem, *]; (try rfl); done)))
              | (apply x_condF; (focus (simp only [go_sem, *]; (try rfl); done)))
              | (apply x_guardS; (focus rfl); (fail_if_success (focus (show _ = some true; (focus (simp only [go_sem, *]; (try rfl); done))))); (focus (simp only [go_sem, *]; (try rfl); done)); all_goals (intro hb; try simp only [Bool.not_eq_true', Bool.not_eq_false'] at hb))
              | (apply x_condS; (focus (simp only [go_sem, *]; (try rfl); done)); all_goals (intro hb; try simp only [Bool.not_eq_true', Bool.not_eq_false'] at hb))
            intro q2
            repeat' first
              | apply x_seq | apply x_skip | apply x_block | apply x_exit | apply x_ret | apply x_ops_nil | apply p_blk | apply p_exit_it | apply p_exit_hit | apply p_ret_it | apply p_ret_blk | apply p_panic_it | apply p_panic_blk | apply p_end
              | (apply p_exit_miss; (focus rfl))
              | (apply x_region; simp only [List.toList_toArray])
              | (apply x_step0; (focus rfl); (focus (simp only [go_sem, *]; (try rfl); done)); (focus rfl); simp only [putA])
              | (apply x_panic; (focus (simp only [go_sem, *]; (try rfl); done)); (focus rfl); (focus (simp only [go_sem, *]; (try rfl); done)))
              | (apply x_step; (iterate 2 (focus (simp only [go_sem, *]; (try rfl); done))); (focus rfl); simp only [putA])
              | (apply x_unwanted; (focus (simp only [go_sem, *]; (try rfl); done)); (focus rfl); simp only [putA])
              | (apply x_condT; (focus (simp only [go_sem, *]; (try rfl); done)))
              | (apply x_condF; (focus (simp only [go_sem, *]; (try rfl); done)))
              | (apply x_guardS; (focus rfl); (fail_if_success (focus (show _ = some true; (focus (simp only [go_sem, *]; (try rfl); done))))); (focus (simp only [go_sem, *]; (try rfl); done)); all_goals (intro hb; try simp only [Bool.not_eq_true', Bool.not_eq_false'] at hb))
              | (apply x_condS; (focus (simp only [go_sem, *]; (try rfl); done)); all_goals (intro hb; try simp only [Bool.not_eq_true', Bool.not_eq_false'] at hb))
            refine HI.out none _ _ (by simp) ⟨?_, ?_, ?_, q2, [], _, hr', rfl⟩
            · exact Hn.out
            · (simp only [go_sem, *]; try rfl)
            · (simp only [go_sem, *]; try rfl)
          | c2 :: r2, hr', hu, hl, Hn, HI =>
            have hr2 := (suf_at hr' rfl).1
            have hb := byte1L w0 S a t r2 c2 .inil [.arr 5 1 0 k (acc.map bAV)] ht hi0 hal hr'
            simp only [List.length_cons] at hl
            by_cases z1 : c2.toNat = 34
            · have y1 : ((c2.toNat : Int) == 34) = true := by rw [z1]; rfl
              have h := H1.out acc r2 (by rw [← hu, unqC_cons, if_pos z1]) hr2
              have hby := bytesOf_map acc
              have hok8 := okBytes_map acc
              clear hu hl z1 HI Hn
              repeat' first
                | apply x_seq | apply x_skip | apply x_block | apply x_exit | apply x_ret | apply x_ops_nil | apply p_blk | apply p_exit_it | apply p_exit_hit | apply p_ret_it | apply p_ret_blk | apply p_panic_it | apply p_panic_blk | apply p_end
                | (apply p_exit_miss; (focus rfl))
                | (apply x_region; simp only [List.toList_toArray])
                | (apply x_step0; (focus rfl); (focus (simp only [go_sem, *]; (try rfl); done)); (focus rfl); simp only [putA])
                | (apply x_callA []; (focus (simp only [go_sem, *]; (try rfl); done)); (focus rfl); (focus (simp only [go_sem, *]; (try rfl); done)); (focus rfl); (iterate 2 (focus (simp only [go_sem, *]; (try rfl); done))); (first | (apply hb)); simp only [afterCall, putA])
                | (apply x_panic; (focus (simp only [go_sem, *]; (try rfl); done)); (focus rfl); (focus (simp only [go_sem, *]; (try rfl); done)))
                | (apply x_step; (iterate 2 (focus (simp only [go_sem, *]; (try rfl); done))); (focus rfl); simp only [putA])
                | (apply x_unwanted; (focus (simp only [go_sem, *]; (try rfl); done)); (focus rfl); simp only [putA])
                | (apply x_condT; (focus (simp only [go_sem, *]; (try rfl); done)))
                | (apply x_condF; (focus (simp only [go_sem, *]; (try rfl); done)))
                | (apply x_guardS; (focus rfl); (fail_if_success (focus (show _ = some true; (focus (simp only [go_sem, *]; (try rfl); done))))); (focus (simp only [go_sem, *]; (try rfl); done)); all_goals (intro hb; try simp only [Bool.not_eq_true', Bool.not_eq_false'] at hb))
                | (apply x_condS; (focus (simp only [go_sem, *]; (try rfl); done)); all_goals (intro hb; try simp only [Bool.not_eq_true', Bool.not_eq_false'] at hb))
              apply f_retO (S2 := S.set a (.cells [.str t, .int .i64 (scP t r2 : Nat), .inil])) (L := [.arr 5 1 0 k (acc.map bAV)])
              · (simp only [go_sem, *]; try rfl)
              · (simp only [go_sem, *]; try rfl)
              · simp
              · exact outSet2 hO hi0
              · (simp only [go_sem, *, Tryz.results64]; try rfl)
              · (simp only [go_sem, *]; try rfl)
              · (simp only [go_sem, *]; try rfl)
              · exact h
            have y1 : ((c2.toNat : Int) == 34) = false := by rw [beq_eq_false_iff_ne]; omega
            by_cases z2 : c2.toNat = 92
            · have y2 : ((c2.toNat : Int) == 92) = true := by rw [z2]; rfl
              rw [unq_92 acc r2 c2 z2] at hu
              cases hes : escP r2 with
              | none =>
                simp only [hes] at hu
                have Hn := Lib.hid hu.symm
                have he := fun (R : AOut → List Blk → Prop) (hh : ∀ q r x, r <:+ t → R (.ret (.int .u8 x)) (S.set a (.cells [.str t, .int .i64 (scP t r : Nat), errV q]) ++ [.arr 5 1 0 k (acc.map bAV)])) => escL w0 S a t hPU r2 .inil [.arr 5 1 0 k (acc.map bAV)] ht hi0 hal hr2 R (fun v r hv => by rw [hes] at hv; cases hv) (fun _ => hh)
                clear hu hl z1 z2 hes
                repeat' first
                  | apply x_seq | apply x_skip | apply x_block | apply x_exit | apply x_ret | apply x_ops_nil | apply p_blk | apply p_exit_it | apply p_exit_hit | apply p_ret_it | apply p_ret_blk | apply p_panic_it | apply p_panic_blk | apply p_end
                  | (apply p_exit_miss; (focus rfl))
                  | (apply x_region; simp only [List.toList_toArray])
                  | (apply x_step0; (focus rfl); (focus (simp only [go_sem, *]; (try rfl); done)); (focus rfl); simp only [putA])
                  | (apply x_callA []; (focus (simp only [go_sem, *]; (try rfl); done)); (focus rfl); (focus (simp only [go_sem, *]; (try rfl); done)); (focus rfl); (iterate 2 (focus (simp only [go_sem, *]; (try rfl); done))); (first | (apply hb) | (apply he)); simp only [afterCall, putA])
                  | (apply x_panic; (focus (simp only [go_sem, *]; (try rfl); done)); (focus rfl); (focus (simp only [go_sem, *]; (try rfl); done)))
                  | (apply x_step; (iterate 2 (focus (simp only [go_sem, *]; (try rfl); done))); (focus rfl); simp only [putA])
                  | (apply x_unwanted; (focus (simp only [go_sem, *]; (try rfl); done)); (focus rfl); simp only [putA])
                  | (apply x_condT; (focus (simp only [go_sem, *]; (try rfl); done)))
                  | (apply x_condF; (focus (simp only [go_sem, *]; (try rfl); done)))
                  | (apply x_guardS; (focus rfl); (fail_if_success (focus (show _ = some true; (focus (simp only [go_sem, *]; (try rfl); done))))); (focus (simp only [go_sem, *]; (try rfl); done)); all_goals (intro hb; try simp only [Bool.not_eq_true', Bool.not_eq_false'] at hb))
                  | (apply x_condS; (focus (simp only [go_sem, *]; (try rfl); done)); all_goals (intro hb; try simp only [Bool.not_eq_true', Bool.not_eq_false'] at hb))
                intro q r3 x hr3
                repeat' first
                  | apply x_seq | apply x_skip | apply x_block | apply x_exit | apply x_ret | apply x_ops_nil | apply p_blk | apply p_exit_it | apply p_exit_hit | apply p_ret_it | apply p_ret_blk | apply p_panic_it | apply p_panic_blk | apply p_end
                  | (apply p_exit_miss; (focus rfl))
                  | (apply x_region; simp only [List.toList_toArray])
                  | (apply x_step0; (focus rfl); (focus (simp only [go_sem, *]; (try rfl); done)); (focus rfl); simp only [putA])
                  | (apply x_panic; (focus (simp only [go_sem, *]; (try rfl); done)); (focus rfl); (focus (simp only [go_sem, *]; (try rfl); done)))
                  | (apply x_step; (iterate 2 (focus (simp only [go_sem, *]; (try rfl); done))); (focus rfl); simp only [putA])
                  | (apply x_unwanted; (focus (simp only [go_sem, *]; (try rfl); done)); (focus rfl); simp only [putA])
                  | (apply x_condT; (focus (simp only [go_sem, *]; (try rfl); done)))
                  | (apply x_condF; (focus (simp only [go_sem, *]; (try rfl); done)))
                  | (apply x_guardS; (focus rfl); (fail_if_success (focus (show _ = some true; (focus (simp only [go_sem, *]; (try rfl); done))))); (focus (simp only [go_sem, *]; (try rfl); done)); all_goals (intro hb; try simp only [Bool.not_eq_true', Bool.not_eq_false'] at hb))
                  | (apply x_condS; (focus (simp only [go_sem, *]; (try rfl); done)); all_goals (intro hb; try simp only [Bool.not_eq_true', Bool.not_eq_false'] at hb))
                refine HI.out none _ _ (by simp) ⟨?_, ?_, ?_, q, r3, _, hr3, rfl⟩
                · exact Hn.out
                · (simp only [go_sem, *]; try rfl)
                · (simp only [go_sem, *]; try rfl)
              | some w =>
                obtain ⟨v, r3⟩ := w
                simp only [hes] at hu
                obtain ⟨e1, e2⟩ := escP_suf hes
                have hr3 : r3 <:+ t := e1.trans hr2
                have he := fun (R : AOut → List Blk → Prop) (hh : R (.ret (.int .u8 (v.toNat : Nat))) (S.set a (.cells [.str t, .int .i64 (scP t r3 : Nat), .inil]) ++ [.arr 5 1 0 k (acc.map bAV)])) => escL w0 S a t hPU r2 .inil [.arr 5 1 0 k (acc.map bAV)] ht hi0 hal hr2 R (fun v r hv => by rw [hes] at hv; cases hv; exact hh) (fun hn => by rw [hes] at hn; cases hn)
                have Hu := Lib.hid hu
                have Hl := Lib.hid hl
                have He2 := Lib.hid e2
                clear hu hl z1 z2 hes e1 e2 Hn
                repeat' first
                  | apply x_seq | apply x_skip | apply x_block | apply x_exit | apply x_ret | apply x_ops_nil | apply p_blk | apply p_exit_it | apply p_exit_hit | apply p_ret_it | apply p_ret_blk | apply p_panic_it | apply p_panic_blk | apply p_end
                  | (apply p_exit_miss; (focus rfl))
                  | (apply x_region; simp only [List.toList_toArray])
                  | (apply x_step0; (focus rfl); (focus (simp only [go_sem, *]; (try rfl); done)); (focus rfl); simp only [putA])
                  | (apply x_callA []; (focus (simp only [go_sem, *]; (try rfl); done)); (focus rfl); (focus (simp only [go_sem, *]; (try rfl); done)); (focus rfl); (iterate 2 (focus (simp only [go_sem, *]; (try rfl); done))); (first | (apply hb) | (apply he)); simp only [afterCall, putA])
                  | (apply x_panic; (focus (simp only [go_sem, *]; (try rfl); done)); (focus rfl); (focus (simp only [go_sem, *]; (try rfl); done)))
                  | (apply x_step; (iterate 2 (focus (simp only [go_sem, *]; (try rfl); done))); (focus rfl); simp only [putA])
                  | (apply x_unwanted; (focus (simp only [go_sem, *]; (try rfl); done)); (focus rfl); simp only [putA])
                  | (apply x_condT; (focus (simp only [go_sem, *]; (try rfl); done)))
                  | (apply x_condF; (focus (simp only [go_sem, *]; (try rfl); done)))
                  | (apply x_guardS; (focus rfl); (fail_if_success (focus (show _ = some true; (focus (simp only [go_sem, *]; (try rfl); done))))); (focus (simp only [go_sem, *]; (try rfl); done)); all_goals (intro hb; try simp only [Bool.not_eq_true', Bool.not_eq_false'] at hb))
                  | (apply x_condS; (focus (simp only [go_sem, *]; (try rfl); done)); all_goals (intro hb; try simp only [Bool.not_eq_true', Bool.not_eq_false'] at hb))
                refine x_keepO (outSet2 hO hi0) 1 [0, 3, 4] (by simp) (by (simp only [go_sem, *]; try rfl)) (by (simp only [go_sem, *]; try rfl)) (by (simp only [go_sem, *]; try rfl)) ?_
                simp only [List.take_succ_cons, List.take_zero]
                refine HI.out (some (acc ++ [v], r3, k + 1)) _ _ (by have := He2.out; simp; omega) ⟨hr3, Hu.out, (by have := Hl.out; have := He2.out; simp; omega), ?_, ?_, ?_, ?_, ?_⟩
                · (simp only [go_sem, *]; try rfl)
                · (simp only [go_sem, *]; try rfl)
                · (simp only [go_sem, *]; try rfl)
                · rw [List.length_append]; (simp only [go_sem, *]; try rfl)
                · rw [List.map_append]; rfl
            have y2 : ((c2.toNat : Int) == 92) = false := by rw [beq_eq_false_iff_ne]; omega
            rw [unqC_cons, if_neg z1, if_pos z2] at hu
            by_cases z3 : 32 ≤ c2.toNat ∧ c2.toNat ≤ 126
            · rw [if_pos z3] at hu
              have y3 : decide ((c2.toNat : Int) < 32) = false := by simp; omega
              have y4 : decide ((126 : Int) < (c2.toNat : Int)) = false := by simp; omega
              have Hu := Lib.hid hu
              have Hl := Lib.hid hl
              clear hu hl z1 z2 z3 Hn
              repeat' first
                | apply x_seq | apply x_skip | apply x_block | apply x_exit | apply x_ret | apply x_ops_nil | apply p_blk | apply p_exit_it | apply p_exit_hit | apply p_ret_it | apply p_ret_blk | apply p_panic_it | apply p_panic_blk | apply p_end
                | (apply p_exit_miss; (focus rfl))
                | (apply x_region; simp only [List.toList_toArray])
                | (apply x_step0; (focus rfl); (focus (simp only [go_sem, *]; (try rfl); done)); (focus rfl); simp only [putA])
                | (apply x_callA []; (focus (simp only [go_sem, *]; (try rfl); done)); (focus rfl); (focus (simp only [go_sem, *]; (try rfl); done)); (focus rfl); (iterate 2 (focus (simp only [go_sem, *]; (try rfl); done))); (first | (apply hb)); simp only [afterCall, putA])
                | (apply x_panic; (focus (simp only [go_sem, *]; (try rfl); done)); (focus rfl); (focus (simp only [go_sem, *]; (try rfl); done)))
                | (apply x_step; (iterate 2 (focus (simp only [go_sem, *]; (try rfl); done))); (focus rfl); simp only [putA])
                | (apply x_unwanted; (focus (simp only [go_sem, *]; (try rfl); done)); (focus rfl); simp only [putA])
                | (apply x_condT; (focus (simp only [go_sem, *]; (try rfl); done)))
                | (apply x_condF; (focus (simp only [go_sem, *]; (try rfl); done)))
                | (apply x_guardS; (focus rfl); (fail_if_success (focus (show _ = some true; (focus (simp only [go_sem, *]; (try rfl); done))))); (focus (simp only [go_sem, *]; (try rfl); done)); all_goals (intro hb; try simp only [Bool.not_eq_true', Bool.not_eq_false'] at hb))
                | (apply x_condS; (focus (simp only [go_sem, *]; (try rfl); done)); all_goals (intro hb; try simp only [Bool.not_eq_true', Bool.not_eq_false'] at hb))
              refine x_keepO (outSet2 hO hi0) 1 [0, 3, 4] (by simp) (by (simp only [go_sem, *]; try rfl)) (by (simp only [go_sem, *]; try rfl)) (by (simp only [go_sem, *]; try rfl)) ?_
              simp only [List.take_succ_cons, List.take_zero]
              refine HI.out (some (acc ++ [c2], r2, k + 1)) _ _ (by simp) ⟨hr2, Hu.out, (by have := Hl.out; simp; omega), ?_, ?_, ?_, ?_, ?_⟩
              · (simp only [go_sem, *]; try rfl)
              · (simp only [go_sem, *]; try rfl)
              · (simp only [go_sem, *]; try rfl)
              · rw [List.length_append]; (simp only [go_sem, *]; try rfl)
              · rw [List.map_append]; rfl
            · rw [if_neg z3] at hu
              have Hn := Lib.hid hu.symm
              have hf := fail' w0 S a t (scP t r2 : Nat) .inil hi0 hal [.arr 5 1 0 k (acc.map bAV)]
              have hd : decide ((c2.toNat : Int) < 32) = true ∨ (decide ((c2.toNat : Int) < 32) = false ∧ decide ((126 : Int) < (c2.toNat : Int)) = true) := by simp; omega
              clear hu hl z1 z2 z3
              rcases hd with y3 | ⟨y3, y4⟩
              all_goals
                repeat' first
                  | apply x_seq | apply x_skip | apply x_block | apply x_exit | apply x_ret | apply x_ops_nil | apply p_blk | apply p_exit_it | apply p_exit_hit | apply p_ret_it | apply p_ret_blk | apply p_panic_it | apply p_panic_blk | apply p_end
                  | (apply p_exit_miss; (focus rfl))
                  | (apply x_region; simp only [List.toList_toArray])
                  | (apply x_step0; (focus rfl); (focus (simp only [go_sem, *]; (try rfl); done)); (focus rfl); simp only [putA])
                  | (apply x_callA []; (focus (simp only [go_sem, *]; (try rfl); done)); (focus rfl); (focus (simp only [go_sem, *]; (try rfl); done)); (focus rfl); (iterate 2 (focus (simp only [go_sem, *]; (try rfl); done))); (first | (apply hb) | (apply hf)); simp only [afterCall, putA])
                  | (apply x_panic; (focus (simp only [go_sem, *]; (try rfl); done)); (focus rfl); (focus (simp only [go_sem, *]; (try rfl); done)))
                  | (apply x_step; (iterate 2 (focus (simp only [go_sem, *]; (try rfl); done))); (focus rfl); simp only [putA])
                  | (apply x_unwanted; (focus (simp only [go_sem, *]; (try rfl); done)); (focus rfl); simp only [putA])
                  | (apply x_condT; (focus (simp only [go_sem, *]; (try rfl); done)))
                  | (apply x_condF; (focus (simp only [go_sem, *]; (try rfl); done)))
                  | (apply x_guardS; (focus rfl); (fail_if_success (focus (show _ = some true; (focus (simp only [go_sem, *]; (try rfl); done))))); (focus (simp only [go_sem, *]; (try rfl); done)); all_goals (intro hb; try simp only [Bool.not_eq_true', Bool.not_eq_false'] at hb))
                  | (apply x_condS; (focus (simp only [go_sem, *]; (try rfl); done)); all_goals (intro hb; try simp only [Bool.not_eq_true', Bool.not_eq_false'] at hb))
                intro q2
                repeat' first
                  | apply x_seq | apply x_skip | apply x_block | apply x_exit | apply x_ret | apply x_ops_nil | apply p_blk | apply p_exit_it | apply p_exit_hit | apply p_ret_it | apply p_ret_blk | apply p_panic_it | apply p_panic_blk | apply p_end
                  | (apply p_exit_miss; (focus rfl))
                  | (apply x_region; simp only [List.toList_toArray])
                  | (apply x_step0; (focus rfl); (focus (simp only [go_sem, *]; (try rfl); done)); (focus rfl); simp only [putA])
                  | (apply x_panic; (focus (simp only [go_sem, *]; (try rfl); done)); (focus rfl); (focus (simp only [go_sem, *]; (try rfl); done)))
                  | (apply x_step; (iterate 2 (focus (simp only [go_sem, *]; (try rfl); done))); (focus rfl); simp only [putA])
                  | (apply x_unwanted; (focus (simp only [go_sem, *]; (try rfl); done)); (focus rfl); simp only [putA])
                  | (apply x_condT; (focus (simp only [go_sem, *]; (try rfl); done)))
                  | (apply x_condF; (focus (simp only [go_sem, *]; (try rfl); done)))
                  | (apply x_guardS; (focus rfl); (fail_if_success (focus (show _ = some true; (focus (simp only [go_sem, *]; (try rfl); done))))); (focus (simp only [go_sem, *]; (try rfl); done)); all_goals (intro hb; try simp only [Bool.not_eq_true', Bool.not_eq_false'] at hb))
                  | (apply x_condS; (focus (simp only [go_sem, *]; (try rfl); done)); all_goals (intro hb; try simp only [Bool.not_eq_true', Bool.not_eq_false'] at hb))
                refine HI.out none _ _ (by simp) ⟨?_, ?_, ?_, q2, r2, _, hr2, rfl⟩
                · exact Hn.out
                · (simp only [go_sem, *]; try rfl)
                · (simp only [go_sem, *]; try rfl)
    · simp only [if_neg hc] at h0
      have h := h0 trivial
      have d1 : ((c.toNat : Int) == 34) = false := by rw [beq_eq_false_iff_ne]; omega
      have d2 : ((c.toNat : Int) != 34) = true := by rw [bne, d1]; rfl
      have hf := fail0' w0 S a t (scP t r : Nat) .inil hi0 hal
      simp only [errV] at hf
      clear h1 h0 hs hst hq hc
      refine enter Tryz.func64 rfl (by decide +kernel) (by rw [Tryz.ntmps64]; simp) (by rw [Tryz.ntmps64]; decide) (fun hO => ?_); rw [Tryz.ntmps64]
      repeat' first
        | apply x_seq | apply x_skip | apply x_block | apply x_exit | apply x_ret | apply x_ops_nil | apply p_blk | apply p_exit_it | apply p_exit_hit | apply p_ret_it | apply p_ret_blk | apply p_panic_it | apply p_panic_blk | apply p_end
        | (apply p_exit_miss; (focus rfl))
        | (apply x_region; simp only [List.toList_toArray])
        | (apply x_step0; (focus rfl); (focus (simp only [go_sem, *]; (try rfl); done)); (focus rfl); simp only [putA])
        | (apply x_callA []; (focus (simp only [go_sem, *]; (try rfl); done)); (focus rfl); (focus (simp only [go_sem, *]; (try rfl); done)); (focus rfl); (iterate 2 (focus (simp only [go_sem, *]; (try rfl); done))); (first | (apply hsk) | (apply hb) | (apply hf)); simp only [afterCall, putA])
        | (apply x_panic; (focus (simp only [go_sem, *]; (try rfl); done)); (focus rfl); (focus (simp only [go_sem, *]; (try rfl); done)))
        | (apply x_step; (iterate 2 (focus (simp only [go_sem, *]; (try rfl); done))); (focus rfl); simp only [putA])
        | (apply x_unwanted; (focus (simp only [go_sem, *]; (try rfl); done)); (focus rfl); simp only [putA])
        | (apply x_condT; (focus (simp only [go_sem, *]; (try rfl); done)))
        | (apply x_condF; (focus (simp only [go_sem, *]; (try rfl); done)))
        | (apply x_guardS; (focus rfl); (fail_if_success (focus (show _ = some true; (focus (simp only [go_sem, *]; (try rfl); done))))); (focus (simp only [go_sem, *]; (try rfl); done)); all_goals (intro hb; try simp only [Bool.not_eq_true', Bool.not_eq_false'] at hb))
        | (apply x_condS; (focus (simp only [go_sem, *]; (try rfl); done)); all_goals (intro hb; try simp only [Bool.not_eq_true', Bool.not_eq_false'] at hb))
      intro q2
      repeat' first
        | apply x_seq | apply x_skip | apply x_block | apply x_exit | apply x_ret | apply x_ops_nil | apply p_blk | apply p_exit_it | apply p_exit_hit | apply p_ret_it | apply p_ret_blk | apply p_panic_it | apply p_panic_blk | apply p_end
        | (apply p_exit_miss; (focus rfl))
        | (apply x_region; simp only [List.toList_toArray])
        | (apply x_step0; (focus rfl); (focus (simp only [go_sem, *]; (try rfl); done)); (focus rfl); simp only [putA])
        | (apply x_panic; (focus (simp only [go_sem, *]; (try rfl); done)); (focus rfl); (focus (simp only [go_sem, *]; (try rfl); done)))
        | (apply x_step; (iterate 2 (focus (simp only [go_sem, *]; (try rfl); done))); (focus rfl); simp only [putA])
        | (apply x_unwanted; (focus (simp only [go_sem, *]; (try rfl); done)); (focus rfl); simp only [putA])
        | (apply x_condT; (focus (simp only [go_sem, *]; (try rfl); done)))
        | (apply x_condF; (focus (simp only [go_sem, *]; (try rfl); done)))
        | (apply x_guardS; (focus rfl); (fail_if_success (focus (show _ = some true; (focus (simp only [go_sem, *]; (try rfl); done))))); (focus (simp only [go_sem, *]; (try rfl); done)); all_goals (intro hb; try simp only [Bool.not_eq_true', Bool.not_eq_false'] at hb))
        | (apply x_condS; (focus (simp only [go_sem, *]; (try rfl); done)); all_goals (intro hb; try simp only [Bool.not_eq_true', Bool.not_eq_false'] at hb))
        | apply x_loop | apply x_lp
      apply f_retO (S2 := S.set a (.cells [.str t, .int .i64 (scP t r : Nat), errV q2])) (L := [])
      · (simp only [go_sem, *]; try rfl)
      · (simp only [go_sem, *]; try rfl)
      · simp
      · exact outSet2 hO (errOk_v q2)
      · (simp only [go_sem, *, Tryz.results64]; try rfl)
      · (simp only [go_sem, *]; try rfl)
      · (simp only [go_sem, *]; try rfl)
      · exact h q2 r hr
end Go.Proofs.YtcobfilbmfokoaaGreatDoor
namespace Go.Proofs.YtcobfilbmfokoaaGreatDoor
open Go Go.Fen
set_option linter.unusedSimpArgs false
set_option linter.unusedVariables false
attribute [local irreducible] RunX WP ACall AnyP OpA ProtL
set_option maxRecDepth 8000
section
variable (w0 : World) (S : List Blk) (a : Nat) (t : List UInt8)
theorem skipL (s : List UInt8) (e : AV) (L : List Blk) (ht : t.length ≤ 10000000) (he : ErrOk e) (hal : a < S.length) (hs : s <:+ t) (R : AOut → List Blk → Prop) (h : R (.ret (.bool (decide (skipC s = [])))) (S.set a (.cells [.str t, .int .i64 (scP t (skipC s) : Nat), e]) ++ L)) :
    ACall Tryz.prog w0 62 [.own a 0] (S.set a (.cells [.str t, .int .i64 (scP t s : Nat), e]) ++ L) R := by
  have := skip' w0 (S ++ L) a t s e ht he (by simp; omega) hs R (by rw [setL hal]; exact h)
  rwa [setL hal] at this
theorem wordL (s : List UInt8) (e : AV) (L : List Blk) (ht : t.length ≤ 10000000) (he : ErrOk e) (hal : a < S.length) (hs : s <:+ t) (R : AOut → List Blk → Prop) (h : R (.ret (.str (wordC s).1)) (S.set a (.cells [.str t, .int .i64 (scP t (wordC s).2 : Nat), e]) ++ L)) :
    ACall Tryz.prog w0 44 [.own a 0] (S.set a (.cells [.str t, .int .i64 (scP t s : Nat), e]) ++ L) R := by
  have := cWord w0 ((S ++ L).set a (.cells [.str t, .int .i64 (scP t s : Nat), e])) a t s e ht he (by rw [setL hal, List.getElem?_append_left (by simpa using hal)]; simp [hal]) hs R (by rw [List.set_set, setL hal]; exact h)
  rwa [setL hal] at this
theorem numL (s : List UInt8) (e : AV) (L : List Blk) (ht : t.length ≤ 10000000) (he : ErrOk e) (hal : a < S.length) (hs : s <:+ t) (R : AOut → List Blk → Prop)
    (h1 : ∀ n, numC (wordC s).1 = some n → R (.ret (.int .i64 n)) (S.set a (.cells [.str t, .int .i64 (scP t (wordC s).2 : Nat), e]) ++ L))
    (h0 : numC (wordC s).1 = none → ∀ q, R (.ret (.int .i64 0)) (S.set a (.cells [.str t, .int .i64 (scP t (wordC s).2 : Nat), errV q]) ++ L)) :
    ACall Tryz.prog w0 63 [.own a 0] (S.set a (.cells [.str t, .int .i64 (scP t s : Nat), e]) ++ L) R := by
  have := cNumber w0 ((S ++ L).set a (.cells [.str t, .int .i64 (scP t s : Nat), e])) a t s e ht he (by rw [setL hal, List.getElem?_append_left (by simpa using hal)]; simp [hal]) hs R (fun n hn => by rw [List.set_set, setL hal]; exact h1 n hn) (fun hn q => by rw [List.set_set, setL hal]; exact h0 hn q)
  rwa [setL hal] at this
theorem quoL (hPU : PU16 w0) (s : List UInt8) (L : List Blk) (ht : t.length ≤ 10000000) (hal : a < S.length) (hs : s <:+ t) (R : AOut → List Blk → Prop)
    (h1 : ∀ x r, quoC s = some (x, r) → r <:+ t → R (.ret (.str x)) (S.set a (.cells [.str t, .int .i64 (scP t r : Nat), .inil]) ++ L))
    (h0 : quoC s = none → ∀ q r, r <:+ t → R (.ret (.str [])) (S.set a (.cells [.str t, .int .i64 (scP t r : Nat), errV q]) ++ L)) :
    ACall Tryz.prog w0 64 [.own a 0] (S.set a (.cells [.str t, .int .i64 (scP t s : Nat), .inil]) ++ L) R := by
  have := cQuoted w0 hPU (S ++ L) a t s ht (by simp; omega) hs R (fun x r hh hr => by rw [setL hal]; exact h1 x r hh hr) (fun hh q r hr => by rw [setL hal]; exact h0 hh q r hr)
  rwa [setL hal] at this
end
theorem skip_skip (s : List UInt8) : skipC (skipC s) = skipC s := by
  unfold skipC
  induction s with
  | nil => rfl
  | cons b r ih =>
    rw [List.dropWhile_cons]
    split
    · exact ih
    · next hb => rw [List.dropWhile_cons, if_neg hb]
theorem quo_skip (s : List UInt8) : quoC (skipC s) = quoC s := by
  unfold quoC
  rw [skip_skip]
theorem unq_suf : ∀ (n : Nat) (s acc x r : List UInt8), s.length ≤ n → unqC acc s = some (x, r) → r <:+ s
  | _, [], acc, x, r, _, h => by cases h
  | 0, c :: s, acc, x, r, hn, h => by simp at hn
  | n + 1, c :: s, acc, x, r, hn, h => by
    simp only [List.length_cons] at hn
    by_cases h1 : c.toNat = 34
    · rw [unqC_cons, if_pos h1] at h
      cases h
      exact List.suffix_cons _ _
    · by_cases h2 : c.toNat = 92
      · rw [unq_92 acc s c h2] at h
        cases he : escP s with
        | none => rw [he] at h; cases h
        | some w =>
          obtain ⟨v, r2⟩ := w
          rw [he] at h
          obtain ⟨e1, e2⟩ := escP_suf he
          exact ((unq_suf n r2 _ x r (by omega) h).trans e1).trans (List.suffix_cons _ _)
      · rw [unqC_cons, if_neg h1, if_pos h2] at h
        split at h
        · exact (unq_suf n s _ x r (by omega) h).trans (List.suffix_cons _ _)
        · cases h
theorem quo_suf {s x r : List UInt8} (h : quoC s = some (x, r)) : r <:+ s := by
  unfold quoC at h
  have hs : skipC s <:+ s := List.dropWhile_suffix _
  cases hq : skipC s with
  | nil => rw [hq] at h; cases h
  | cons c r2 =>
    rw [hq] at h hs
    simp only at h
    split at h
    · exact ((unq_suf _ r2 _ x r (Nat.le_refl _) h).trans (List.suffix_cons _ _)).trans hs
    · cases h
theorem set2 {S L : List Blk} {a b : Nat} (hab : a ≠ b) (hb : b < S.length) (C X C' : Blk) : ((S.set b C).set a X ++ L).set b C' = (S.set b C').set a X ++ L := by
  rw [List.set_append_left _ _ (by simpa using hb), List.set_comm _ _ hab, List.set_set]
theorem get2a {S L : List Blk} {a b : Nat} (ha : a < S.length) (C X : Blk) : ((S.set b C).set a X ++ L)[a]? = some X := by
  rw [List.getElem?_append_left (by simpa using ha)]; simp [ha]
theorem get2b {S L : List Blk} {a b : Nat} (hab : a ≠ b) (hb : b < S.length) (C X : Blk) : ((S.set b C).set a X ++ L)[b]? = some C := by
  rw [List.getElem?_append_left (by simpa using hb), List.getElem?_set_ne hab]; simp [hb]
def cmB (c : Cm) : Blk := .cells [.int .i64 c.kind, .int .i64 c.n, .int .i64 c.m, .str c.text]
theorem out2 {S : List Blk} {a b : Nat} {C C' : Blk} {t : List UInt8} {x y : Int} {e e2 : AV} (hO : OuterOk ((S.set b C).set a (.cells [.str t, .int .i64 y, e2]))) (he : ErrOk e) (hC : ∀ n, C'.ltB n = true) (hab : a ≠ b) : OuterOk ((S.set b C').set a (.cells [.str t, .int .i64 x, e])) := by
  have h1 := outSet2 (x := x) hO he
  have h2 := OuterOk.set (a := b) h1 (hC _)
  rw [List.set_comm _ _ hab, List.set_set] at h2
  exact h2
set_option maxHeartbeats 8000000 in
theorem cArgs0 (w0 : World) (hPU : PU16 w0) (S : List Blk) (a b : Nat) (hab : a ≠ b) (ha : a < S.length) (hb : b < S.length) (t s : List UInt8) (ht : t.length ≤ 10000000) (hs : s <:+ t) (k : Int) (f : Fm) (hw : f.words = [])
    (hex : f.index = true → f.number = false ∧ f.text = false) (hnt : f.number = true → f.text = false) (R : AOut → List Blk → Prop)
    (h1 : ∀ c, argsC k f s = some c → R (.ret (.tup [])) ((S.set b (cmB c)).set a (.cells [.str t, .int .i64 (scP t [] : Nat), .inil])))
    (h0 : argsC k f s = none → ∀ q r c, r <:+ t → R (.ret (.tup [])) ((S.set b (cmB c)).set a (.cells [.str t, .int .i64 (scP t r : Nat), errV q]))) :
    ACall Tryz.prog w0 45 [.own a 0, f.av, .own b 0] ((S.set b (cmB ⟨k, 0, 0, []⟩)).set a (.cells [.str t, .int .i64 (scP t s : Nat), .inil])) R := by
  obtain ⟨kw, words, number, index, text, lo, hi, mx, name⟩ := f
  simp only at hw hex hnt
  subst hw
  have hi0 : ErrOk .inil := .inl rfl
  have hga := fun C X L => get2a (S := S) (L := L) (b := b) ha C X
  have hgb := fun C X L => get2b (S := S) (L := L) hab hb C X
  have hsb := fun C X C' L => set2 (S := S) (L := L) hab hb C X C'
  have hga0 : ∀ C X, ((S.set b C).set a X)[a]? = some X := fun C X => by simpa using hga C X []
  have hgb0 : ∀ C X, ((S.set b C).set a X)[b]? = some C := fun C X => by simpa using hgb C X []
  have hgn : ∀ C X F, ((S.set b C).set a X ++ [F])[S.length]? = some F := fun C X F => by
    rw [List.getElem?_append_right (by simp)]; simp
  have hal : ∀ C, a < (S.set b C).length := fun C => by simpa using ha
  have hwc : wordsC ⟨kw, [], number, index, text, lo, hi, mx, name⟩ s = some (0, s) := rfl
  unfold argsC at h1 h0
  simp only [hwc] at h1 h0
  unfold Fm.av
  simp only [List.map_nil]
  have hr1 := (suf_word hs).1
  cases index with
  | true =>
    obtain ⟨rfl, rfl⟩ := hex rfl
    simp only [if_true] at h1 h0
    simp only [cmB]
    have hnu := fun (R : AOut → List Blk → Prop) => numL w0 (S.set b (Blk.cells [.int .i64 k, .int .i64 0, .int .i64 0, .str []])) a t s .inil [(Blk.cells [.str kw, .sval false [], .bool false, .bool true, .bool false, .int .i64 lo, .int .i64 hi, .int .i64 mx, .bool name])] ht hi0 (hal _) hs R
    cases hn : numC (wordC s).1 with
    | some n =>
      have hnu := fun (R : AOut → List Blk → Prop) hh => hnu R (fun n' hn' => by rw [hn] at hn'; cases hn'; exact hh) (fun hn' => by rw [hn] at hn'; cases hn')
      have hsk := skipL w0 (S.set b (Blk.cells [.int .i64 k, .int .i64 n, .int .i64 0, .str []])) a t (wordC s).2 .inil [(Blk.cells [.str kw, .sval false [], .bool false, .bool true, .bool false, .int .i64 lo, .int .i64 hi, .int .i64 mx, .bool name])] ht hi0 (hal _) hr1
      have hr2 := suf_skip hr1
      by_cases hz : skipC (wordC s).2 = []
      · have h := h1 ⟨k, n, 0, []⟩ (by simp only [hn, Option.map_some]; rw [if_pos hz])
        simp only [cmB] at h
        rw [decide_eq_true hz, hz] at hsk
        clear h1 h0 hz
        refine enter Tryz.func45 rfl (by decide +kernel) (by rw [Tryz.ntmps45]; simp) (by rw [Tryz.ntmps45]; decide) (fun hO => ?_); rw [Tryz.ntmps45]
        repeat' first
          | apply x_seq | apply x_skip | apply x_block | apply x_exit | apply x_ret | apply x_ops_nil | apply p_blk | apply p_exit_it | apply p_exit_hit | apply p_ret_it | apply p_ret_blk | apply p_panic_it | apply p_panic_blk | apply p_end
          | (apply p_exit_miss; (focus rfl))
          | (apply x_region; simp only [List.toList_toArray])
          | (apply x_step0; (focus rfl); (focus (simp only [go_sem, *]; (try rfl); done)); (focus rfl); simp only [putA])
          | (apply x_callA []; (focus (simp only [go_sem, *]; (try rfl); done)); (focus rfl); (focus (simp only [go_sem, *]; (try rfl); done)); (focus rfl); (iterate 2 (focus (simp only [go_sem, *]; (try rfl); done))); (first | (apply hnu) | (apply hsk)); simp only [afterCall, putA])
          | (apply x_panic; (focus (simp only [go_sem, *]; (try rfl); done)); (focus rfl); (focus (simp only [go_sem, *]; (try rfl); done)))
          | (apply x_step; (iterate 2 (focus (simp only [go_sem, *]; (try rfl); done))); (focus rfl); simp only [putA])
          | (apply x_unwanted; (focus (simp only [go_sem, *]; (try rfl); done)); (focus rfl); simp only [putA])
          | (apply x_condT; (focus (simp only [go_sem, *]; (try rfl); done)))
          | (apply x_condF; (focus (simp only [go_sem, *]; (try rfl); done)))
          | (apply x_guardS; (focus rfl); (fail_if_success (focus (show _ = some true; (focus (simp only [go_sem, *]; (try rfl); done))))); (focus (simp only [go_sem, *]; (try rfl); done)); all_goals (intro hb; try simp only [Bool.not_eq_true', Bool.not_eq_false'] at hb))
          | (apply x_condS; (focus (simp only [go_sem, *]; (try rfl); done)); all_goals (intro hb; try simp only [Bool.not_eq_true', Bool.not_eq_false'] at hb))
        apply f_endO (S2 := (S.set b (Blk.cells [.int .i64 k, .int .i64 n, .int .i64 0, .str []])).set a (.cells [.str t, .int .i64 (scP t [] : Nat), .inil])) (L := [(Blk.cells [.str kw, .sval false [], .bool false, .bool true, .bool false, .int .i64 lo, .int .i64 hi, .int .i64 mx, .bool name])])
        · (simp only [go_sem, *]; try rfl)
        · (simp only [go_sem, *]; try rfl)
        · simp
        · exact out2 hO hi0 (fun _ => rfl) hab
        · (simp only [go_sem, *, Tryz.results45]; try rfl)
        · (simp only [go_sem, *]; try rfl)
        · (simp only [go_sem, *]; try rfl)
        · exact h
      · have h := h0 (by simp only [hn, Option.map_some]; rw [if_neg hz])
        have hf := fail' w0 (S.set b (Blk.cells [.int .i64 k, .int .i64 n, .int .i64 0, .str []])) a t (scP t (skipC (wordC s).2) : Nat) .inil hi0 (hal _) [(Blk.cells [.str kw, .sval false [], .bool false, .bool true, .bool false, .int .i64 lo, .int .i64 hi, .int .i64 mx, .bool name])]
        simp only [cmB] at h
        rw [decide_eq_false hz] at hsk
        clear h1 h0 hz
        refine enter Tryz.func45 rfl (by decide +kernel) (by rw [Tryz.ntmps45]; simp) (by rw [Tryz.ntmps45]; decide) (fun hO => ?_); rw [Tryz.ntmps45]
        repeat' first
          | apply x_seq | apply x_skip | apply x_block | apply x_exit | apply x_ret | apply x_ops_nil | apply p_blk | apply p_exit_it | apply p_exit_hit | apply p_ret_it | apply p_ret_blk | apply p_panic_it | apply p_panic_blk | apply p_end
          | (apply p_exit_miss; (focus rfl))
          | (apply x_region; simp only [List.toList_toArray])
          | (apply x_step0; (focus rfl); (focus (simp only [go_sem, *]; (try rfl); done)); (focus rfl); simp only [putA])
          | (apply x_callA []; (focus (simp only [go_sem, *]; (try rfl); done)); (focus rfl); (focus (simp only [go_sem, *]; (try rfl); done)); (focus rfl); (iterate 2 (focus (simp only [go_sem, *]; (try rfl); done))); (first | (apply hnu) | (apply hsk) | (apply hf)); simp only [afterCall, putA])
          | (apply x_panic; (focus (simp only [go_sem, *]; (try rfl); done)); (focus rfl); (focus (simp only [go_sem, *]; (try rfl); done)))
          | (apply x_step; (iterate 2 (focus (simp only [go_sem, *]; (try rfl); done))); (focus rfl); simp only [putA])
          | (apply x_unwanted; (focus (simp only [go_sem, *]; (try rfl); done)); (focus rfl); simp only [putA])
          | (apply x_condT; (focus (simp only [go_sem, *]; (try rfl); done)))
          | (apply x_condF; (focus (simp only [go_sem, *]; (try rfl); done)))
          | (apply x_guardS; (focus rfl); (fail_if_success (focus (show _ = some true; (focus (simp only [go_sem, *]; (try rfl); done))))); (focus (simp only [go_sem, *]; (try rfl); done)); all_goals (intro hb; try simp only [Bool.not_eq_true', Bool.not_eq_false'] at hb))
          | (apply x_condS; (focus (simp only [go_sem, *]; (try rfl); done)); all_goals (intro hb; try simp only [Bool.not_eq_true', Bool.not_eq_false'] at hb))
        intro q
        repeat' first
          | apply x_seq | apply x_skip | apply x_block | apply x_exit | apply x_ret | apply x_ops_nil | apply p_blk | apply p_exit_it | apply p_exit_hit | apply p_ret_it | apply p_ret_blk | apply p_panic_it | apply p_panic_blk | apply p_end
          | (apply p_exit_miss; (focus rfl))
          | (apply x_region; simp only [List.toList_toArray])
          | (apply x_step0; (focus rfl); (focus (simp only [go_sem, *]; (try rfl); done)); (focus rfl); simp only [putA])
          | (apply x_panic; (focus (simp only [go_sem, *]; (try rfl); done)); (focus rfl); (focus (simp only [go_sem, *]; (try rfl); done)))
          | (apply x_step; (iterate 2 (focus (simp only [go_sem, *]; (try rfl); done))); (focus rfl); simp only [putA])
          | (apply x_unwanted; (focus (simp only [go_sem, *]; (try rfl); done)); (focus rfl); simp only [putA])
          | (apply x_condT; (focus (simp only [go_sem, *]; (try rfl); done)))
          | (apply x_condF; (focus (simp only [go_sem, *]; (try rfl); done)))
          | (apply x_guardS; (focus rfl); (fail_if_success (focus (show _ = some true; (focus (simp only [go_sem, *]; (try rfl); done))))); (focus (simp only [go_sem, *]; (try rfl); done)); all_goals (intro hb; try simp only [Bool.not_eq_true', Bool.not_eq_false'] at hb))
          | (apply x_condS; (focus (simp only [go_sem, *]; (try rfl); done)); all_goals (intro hb; try simp only [Bool.not_eq_true', Bool.not_eq_false'] at hb))
        apply f_endO (S2 := (S.set b (Blk.cells [.int .i64 k, .int .i64 n, .int .i64 0, .str []])).set a (.cells [.str t, .int .i64 (scP t (skipC (wordC s).2) : Nat), errV q])) (L := [(Blk.cells [.str kw, .sval false [], .bool false, .bool true, .bool false, .int .i64 lo, .int .i64 hi, .int .i64 mx, .bool name])])
        · (simp only [go_sem, *]; try rfl)
        · (simp only [go_sem, *]; try rfl)
        · simp
        · exact out2 hO (errOk_v q) (fun _ => rfl) hab
        · (simp only [go_sem, *, Tryz.results45]; try rfl)
        · (simp only [go_sem, *]; try rfl)
        · (simp only [go_sem, *]; try rfl)
        · exact h q (skipC (wordC s).2) ⟨k, n, 0, []⟩ hr2
    | none =>
      have hnu := fun (R : AOut → List Blk → Prop) hh => hnu R (fun n' hn' => by rw [hn] at hn'; cases hn') (fun _ => hh)
      have h := h0 (by simp only [hn, Option.map_none])
      simp only [cmB] at h
      clear h1 h0
      refine enter Tryz.func45 rfl (by decide +kernel) (by rw [Tryz.ntmps45]; simp) (by rw [Tryz.ntmps45]; decide) (fun hO => ?_); rw [Tryz.ntmps45]
      repeat' first
        | apply x_seq | apply x_skip | apply x_block | apply x_exit | apply x_ret | apply x_ops_nil | apply p_blk | apply p_exit_it | apply p_exit_hit | apply p_ret_it | apply p_ret_blk | apply p_panic_it | apply p_panic_blk | apply p_end
        | (apply p_exit_miss; (focus rfl))
        | (apply x_region; simp only [List.toList_toArray])
        | (apply x_step0; (focus rfl); (focus (simp only [go_sem, *]; (try rfl); done)); (focus rfl); simp only [putA])
        | (apply x_callA []; (focus (simp only [go_sem, *]; (try rfl); done)); (focus rfl); (focus (simp only [go_sem, *]; (try rfl); done)); (focus rfl); (iterate 2 (focus (simp only [go_sem, *]; (try rfl); done))); (first | (apply hnu)); simp only [afterCall, putA])
        | (apply x_panic; (focus (simp only [go_sem, *]; (try rfl); done)); (focus rfl); (focus (simp only [go_sem, *]; (try rfl); done)))
        | (apply x_step; (iterate 2 (focus (simp only [go_sem, *]; (try rfl); done))); (focus rfl); simp only [putA])
        | (apply x_unwanted; (focus (simp only [go_sem, *]; (try rfl); done)); (focus rfl); simp only [putA])
        | (apply x_condT; (focus (simp only [go_sem, *]; (try rfl); done)))
        | (apply x_condF; (focus (simp only [go_sem, *]; (try rfl); done)))
        | (apply x_guardS; (focus rfl); (fail_if_success (focus (show _ = some true; (focus (simp only [go_sem, *]; (try rfl); done))))); (focus (simp only [go_sem, *]; (try rfl); done)); all_goals (intro hb; try simp only [Bool.not_eq_true', Bool.not_eq_false'] at hb))
        | (apply x_condS; (focus (simp only [go_sem, *]; (try rfl); done)); all_goals (intro hb; try simp only [Bool.not_eq_true', Bool.not_eq_false'] at hb))
      intro q
      have hr2 := suf_skip hr1
      have hsk := skipL w0 (S.set b (Blk.cells [.int .i64 k, .int .i64 0, .int .i64 0, .str []])) a t (wordC s).2 (errV q) [(Blk.cells [.str kw, .sval false [], .bool false, .bool true, .bool false, .int .i64 lo, .int .i64 hi, .int .i64 mx, .bool name])] ht (errOk_v q) (hal _) hr1
      have hf := fail' w0 (S.set b (Blk.cells [.int .i64 k, .int .i64 0, .int .i64 0, .str []])) a t (scP t (skipC (wordC s).2) : Nat) (errV q) (errOk_v q) (hal _) [(Blk.cells [.str kw, .sval false [], .bool false, .bool true, .bool false, .int .i64 lo, .int .i64 hi, .int .i64 mx, .bool name])]
      by_cases hz : skipC (wordC s).2 = []
      · rw [decide_eq_true hz] at hsk
        clear hz
        repeat' first
          | apply x_seq | apply x_skip | apply x_block | apply x_exit | apply x_ret | apply x_ops_nil | apply p_blk | apply p_exit_it | apply p_exit_hit | apply p_ret_it | apply p_ret_blk | apply p_panic_it | apply p_panic_blk | apply p_end
          | (apply p_exit_miss; (focus rfl))
          | (apply x_region; simp only [List.toList_toArray])
          | (apply x_step0; (focus rfl); (focus (simp only [go_sem, *]; (try rfl); done)); (focus rfl); simp only [putA])
          | (apply x_callA []; (focus (simp only [go_sem, *]; (try rfl); done)); (focus rfl); (focus (simp only [go_sem, *]; (try rfl); done)); (focus rfl); (iterate 2 (focus (simp only [go_sem, *]; (try rfl); done))); (first | (apply hsk)); simp only [afterCall, putA])
          | (apply x_panic; (focus (simp only [go_sem, *]; (try rfl); done)); (focus rfl); (focus (simp only [go_sem, *]; (try rfl); done)))
          | (apply x_step; (iterate 2 (focus (simp only [go_sem, *]; (try rfl); done))); (focus rfl); simp only [putA])
          | (apply x_unwanted; (focus (simp only [go_sem, *]; (try rfl); done)); (focus rfl); simp only [putA])
          | (apply x_condT; (focus (simp only [go_sem, *]; (try rfl); done)))
          | (apply x_condF; (focus (simp only [go_sem, *]; (try rfl); done)))
          | (apply x_guardS; (focus rfl); (fail_if_success (focus (show _ = some true; (focus (simp only [go_sem, *]; (try rfl); done))))); (focus (simp only [go_sem, *]; (try rfl); done)); all_goals (intro hb; try simp only [Bool.not_eq_true', Bool.not_eq_false'] at hb))
          | (apply x_condS; (focus (simp only [go_sem, *]; (try rfl); done)); all_goals (intro hb; try simp only [Bool.not_eq_true', Bool.not_eq_false'] at hb))
        apply f_endO (S2 := (S.set b (Blk.cells [.int .i64 k, .int .i64 0, .int .i64 0, .str []])).set a (.cells [.str t, .int .i64 (scP t (skipC (wordC s).2) : Nat), errV q])) (L := [(Blk.cells [.str kw, .sval false [], .bool false, .bool true, .bool false, .int .i64 lo, .int .i64 hi, .int .i64 mx, .bool name])])
        · (simp only [go_sem, *]; try rfl)
        · (simp only [go_sem, *]; try rfl)
        · simp
        · exact out2 hO (errOk_v q) (fun _ => rfl) hab
        · (simp only [go_sem, *, Tryz.results45]; try rfl)
        · (simp only [go_sem, *]; try rfl)
        · (simp only [go_sem, *]; try rfl)
        · exact h q (skipC (wordC s).2) ⟨k, 0, 0, []⟩ hr2
      · rw [decide_eq_false hz] at hsk
        clear hz
        repeat' first
          | apply x_seq | apply x_skip | apply x_block | apply x_exit | apply x_ret | apply x_ops_nil | apply p_blk | apply p_exit_it | apply p_exit_hit | apply p_ret_it | apply p_ret_blk | apply p_panic_it | apply p_panic_blk | apply p_end
          | (apply p_exit_miss; (focus rfl))
          | (apply x_region; simp only [List.toList_toArray])
          | (apply x_step0; (focus rfl); (focus (simp only [go_sem, *]; (try rfl); done)); (focus rfl); simp only [putA])
          | (apply x_callA []; (focus (simp only [go_sem, *]; (try rfl); done)); (focus rfl); (focus (simp only [go_sem, *]; (try rfl); done)); (focus rfl); (iterate 2 (focus (simp only [go_sem, *]; (try rfl); done))); (first | (apply hsk) | (apply hf)); simp only [afterCall, putA])
          | (apply x_panic; (focus (simp only [go_sem, *]; (try rfl); done)); (focus rfl); (focus (simp only [go_sem, *]; (try rfl); done)))
          | (apply x_step; (iterate 2 (focus (simp only [go_sem, *]; (try rfl); done))); (focus rfl); simp only [putA])
          | (apply x_unwanted; (focus (simp only [go_sem, *]; (try rfl); done)); (focus rfl); simp only [putA])
          | (apply x_condT; (focus (simp only [go_sem, *]; (try rfl); done)))
          | (apply x_condF; (focus (simp only [go_sem, *]; (try rfl); done)))
          | (apply x_guardS; (focus rfl); (fail_if_success (focus (show _ = some true; (focus (simp only [go_sem, *]; (try rfl); done))))); (focus (simp only [go_sem, *]; (try rfl); done)); all_goals (intro hb; try simp only [Bool.not_eq_true', Bool.not_eq_false'] at hb))
          | (apply x_condS; (focus (simp only [go_sem, *]; (try rfl); done)); all_goals (intro hb; try simp only [Bool.not_eq_true', Bool.not_eq_false'] at hb))
        intro q2
        repeat' first
          | apply x_seq | apply x_skip | apply x_block | apply x_exit | apply x_ret | apply x_ops_nil | apply p_blk | apply p_exit_it | apply p_exit_hit | apply p_ret_it | apply p_ret_blk | apply p_panic_it | apply p_panic_blk | apply p_end
          | (apply p_exit_miss; (focus rfl))
          | (apply x_region; simp only [List.toList_toArray])
          | (apply x_step0; (focus rfl); (focus (simp only [go_sem, *]; (try rfl); done)); (focus rfl); simp only [putA])
          | (apply x_panic; (focus (simp only [go_sem, *]; (try rfl); done)); (focus rfl); (focus (simp only [go_sem, *]; (try rfl); done)))
          | (apply x_step; (iterate 2 (focus (simp only [go_sem, *]; (try rfl); done))); (focus rfl); simp only [putA])
          | (apply x_unwanted; (focus (simp only [go_sem, *]; (try rfl); done)); (focus rfl); simp only [putA])
          | (apply x_condT; (focus (simp only [go_sem, *]; (try rfl); done)))
          | (apply x_condF; (focus (simp only [go_sem, *]; (try rfl); done)))
          | (apply x_guardS; (focus rfl); (fail_if_success (focus (show _ = some true; (focus (simp only [go_sem, *]; (try rfl); done))))); (focus (simp only [go_sem, *]; (try rfl); done)); all_goals (intro hb; try simp only [Bool.not_eq_true', Bool.not_eq_false'] at hb))
          | (apply x_condS; (focus (simp only [go_sem, *]; (try rfl); done)); all_goals (intro hb; try simp only [Bool.not_eq_true', Bool.not_eq_false'] at hb))
        apply f_endO (S2 := (S.set b (Blk.cells [.int .i64 k, .int .i64 0, .int .i64 0, .str []])).set a (.cells [.str t, .int .i64 (scP t (skipC (wordC s).2) : Nat), errV q2])) (L := [(Blk.cells [.str kw, .sval false [], .bool false, .bool true, .bool false, .int .i64 lo, .int .i64 hi, .int .i64 mx, .bool name])])
        · (simp only [go_sem, *]; try rfl)
        · (simp only [go_sem, *]; try rfl)
        · simp
        · exact out2 hO (errOk_v q2) (fun _ => rfl) hab
        · (simp only [go_sem, *, Tryz.results45]; try rfl)
        · (simp only [go_sem, *]; try rfl)
        · (simp only [go_sem, *]; try rfl)
        · exact h q2 (skipC (wordC s).2) ⟨k, 0, 0, []⟩ hr2
  | false =>
    cases number with
    | true =>
      have e := hnt rfl
      subst e
      simp only [Bool.false_eq_true, if_false, if_true] at h1 h0
      simp only [cmB]
      have hnu := fun (R : AOut → List Blk → Prop) => numL w0 (S.set b (Blk.cells [.int .i64 k, .int .i64 0, .int .i64 0, .str []])) a t s .inil [(Blk.cells [.str kw, .sval false [], .bool true, .bool false, .bool false, .int .i64 lo, .int .i64 hi, .int .i64 mx, .bool name])] ht hi0 (hal _) hs R
      cases hn : numC (wordC s).1 with
      | some n =>
        have hnu := fun (R : AOut → List Blk → Prop) hh => hnu R (fun n' hn' => by rw [hn] at hn'; cases hn'; exact hh) (fun hn' => by rw [hn] at hn'; cases hn')
        have hsk := skipL w0 (S.set b (Blk.cells [.int .i64 k, .int .i64 0, .int .i64 n, .str []])) a t (wordC s).2 .inil [(Blk.cells [.str kw, .sval false [], .bool true, .bool false, .bool false, .int .i64 lo, .int .i64 hi, .int .i64 mx, .bool name])] ht hi0 (hal _) hr1
        have hr2 := suf_skip hr1
        by_cases hz : skipC (wordC s).2 = []
        · have h := h1 ⟨k, 0, n, []⟩ (by simp only [hn, Option.map_some]; rw [if_pos hz])
          simp only [cmB] at h
          rw [decide_eq_true hz, hz] at hsk
          clear h1 h0 hz
          refine enter Tryz.func45 rfl (by decide +kernel) (by rw [Tryz.ntmps45]; simp) (by rw [Tryz.ntmps45]; decide) (fun hO => ?_); rw [Tryz.ntmps45]
          repeat' first
            | apply x_seq | apply x_skip | apply x_block | apply x_exit | apply x_ret | apply x_ops_nil | apply p_blk | apply p_exit_it | apply p_exit_hit | apply p_ret_it | apply p_ret_blk | apply p_panic_it | apply p_panic_blk | apply p_end
            | (apply p_exit_miss; (focus rfl))
            | (apply x_region; simp only [List.toList_toArray])
            | (apply x_step0; (focus rfl); (focus (simp only [go_sem, *]; (try rfl); done)); (focus rfl); simp only [putA])
            | (apply x_callA []; (focus (simp only [go_sem, *]; (try rfl); done)); (focus rfl); (focus (simp only [go_sem, *]; (try rfl); done)); (focus rfl); (iterate 2 (focus (simp only [go_sem, *]; (try rfl); done))); (first | (apply hnu) | (apply hsk)); simp only [afterCall, putA])
            | (apply x_panic; (focus (simp only [go_sem, *]; (try rfl); done)); (focus rfl); (focus (simp only [go_sem, *]; (try rfl); done)))
            | (apply x_step; (iterate 2 (focus (simp only [go_sem, *]; (try rfl); done))); (focus rfl); simp only [putA])
            | (apply x_unwanted; (focus (simp only [go_sem, *]; (try rfl); done)); (focus rfl); simp only [putA])
            | (apply x_condT; (focus (simp only [go_sem, *]; (try rfl); done)))
            | (apply x_condF; (focus (simp only [go_sem, *]; (try rfl); done)))
            | (apply x_guardS; (focus rfl); (fail_if_success (focus (show _ = some true; (focus (simp only [go_sem, *]; (try rfl); done))))); (focus (simp only [go_sem, *]; (try rfl); done)); all_goals (intro hb; try simp only [Bool.not_eq_true', Bool.not_eq_false'] at hb))
            | (apply x_condS; (focus (simp only [go_sem, *]; (try rfl); done)); all_goals (intro hb; try simp only [Bool.not_eq_true', Bool.not_eq_false'] at hb))
          apply f_endO (S2 := (S.set b (Blk.cells [.int .i64 k, .int .i64 0, .int .i64 n, .str []])).set a (.cells [.str t, .int .i64 (scP t [] : Nat), .inil])) (L := [(Blk.cells [.str kw, .sval false [], .bool true, .bool false, .bool false, .int .i64 lo, .int .i64 hi, .int .i64 mx, .bool name])])
          · (simp only [go_sem, *]; try rfl)
          · (simp only [go_sem, *]; try rfl)
          · simp
          · exact out2 hO hi0 (fun _ => rfl) hab
          · (simp only [go_sem, *, Tryz.results45]; try rfl)
          · (simp only [go_sem, *]; try rfl)
          · (simp only [go_sem, *]; try rfl)
          · exact h
        · have h := h0 (by simp only [hn, Option.map_some]; rw [if_neg hz])
          have hf := fail' w0 (S.set b (Blk.cells [.int .i64 k, .int .i64 0, .int .i64 n, .str []])) a t (scP t (skipC (wordC s).2) : Nat) .inil hi0 (hal _) [(Blk.cells [.str kw, .sval false [], .bool true, .bool false, .bool false, .int .i64 lo, .int .i64 hi, .int .i64 mx, .bool name])]
          simp only [cmB] at h
          rw [decide_eq_false hz] at hsk
          clear h1 h0 hz
          refine enter Tryz.func45 rfl (by decide +kernel) (by rw [Tryz.ntmps45]; simp) (by rw [Tryz.ntmps45]; decide) (fun hO => ?_); rw [Tryz.ntmps45]
          repeat' first
            | apply x_seq | apply x_skip | apply x_block | apply x_exit | apply x_ret | apply x_ops_nil | apply p_blk | apply p_exit_it | apply p_exit_hit | apply p_ret_it | apply p_ret_blk | apply p_panic_it | apply p_panic_blk | apply p_end
            | (apply p_exit_miss; (focus rfl))
            | (apply x_region; simp only [List.toList_toArray])
            | (apply x_step0; (focus rfl); (focus (simp only [go_sem, *]; (try rfl); done)); (focus rfl); simp only [putA])
            | (apply x_callA []; (focus (simp only [go_sem, *]; (try rfl); done)); (focus rfl); (focus (simp only [go_sem, *]; (try rfl); done)); (focus rfl); (iterate 2 (focus (simp only [go_sem, *]; (try rfl); done))); (first | (apply hnu) | (apply hsk) | (apply hf)); simp only [afterCall, putA])
            | (apply x_panic; (focus (simp only [go_sem, *]; (try rfl); done)); (focus rfl); (focus (simp only [go_sem, *]; (try rfl); done)))
            | (apply x_step; (iterate 2 (focus (simp only [go_sem, *]; (try rfl); done))); (focus rfl); simp only [putA])
            | (apply x_unwanted; (focus (simp only [go_sem, *]; (try rfl); done)); (focus rfl); simp only [putA])
            | (apply x_condT; (focus (simp only [go_sem, *]; (try rfl); done)))
            | (apply x_condF; (focus (simp only [go_sem, *]; (try rfl); done)))
            | (apply x_guardS; (focus rfl); (fail_if_success (focus (show _ = some true; (focus (simp only [go_sem, *]; (try rfl); done))))); (focus (simp only [go_sem, *]; (try rfl); done)); all_goals (intro hb; try simp only [Bool.not_eq_true', Bool.not_eq_false'] at hb))
            | (apply x_condS; (focus (simp only [go_sem, *]; (try rfl); done)); all_goals (intro hb; try simp only [Bool.not_eq_true', Bool.not_eq_false'] at hb))
          intro q
          repeat' first
            | apply x_seq | apply x_skip | apply x_block | apply x_exit | apply x_ret | apply x_ops_nil | apply p_blk | apply p_exit_it | apply p_exit_hit | apply p_ret_it | apply p_ret_blk | apply p_panic_it | apply p_panic_blk | apply p_end
            | (apply p_exit_miss; (focus rfl))
            | (apply x_region; simp only [List.toList_toArray])
            | (apply x_step0; (focus rfl); (focus (simp only [go_sem, *]; (try rfl); done)); (focus rfl); simp only [putA])
            | (apply x_panic; (focus (simp only [go_sem, *]; (try rfl); done)); (focus rfl); (focus (simp only [go_sem, *]; (try rfl); done)))
            | (apply x_step; (iterate 2 (focus (simp only [go_sem, *]; (try rfl); done))); (focus rfl); simp only [putA])
            | (apply x_unwanted; (focus (simp only [go_sem, *]; (try rfl); done)); (focus rfl); simp only [putA])
            | (apply x_condT; (focus (simp only [go_sem, *]; (try rfl); done)))
            | (apply x_condF; (focus (simp only [go_sem, *]; (try rfl); done)))
            | (apply x_guardS; (focus rfl); (fail_if_success (focus (show _ = some true; (focus (simp only [go_sem, *]; (try rfl); done))))); (focus (simp only [go_sem, *]; (try rfl); done)); all_goals (intro hb; try simp only [Bool.not_eq_true', Bool.not_eq_false'] at hb))
            | (apply x_condS; (focus (simp only [go_sem, *]; (try rfl); done)); all_goals (intro hb; try simp only [Bool.not_eq_true', Bool.not_eq_false'] at hb))
          apply f_endO (S2 := (S.set b (Blk.cells [.int .i64 k, .int .i64 0, .int .i64 n, .str []])).set a (.cells [.str t, .int .i64 (scP t (skipC (wordC s).2) : Nat), errV q])) (L := [(Blk.cells [.str kw, .sval false [], .bool true, .bool false, .bool false, .int .i64 lo, .int .i64 hi, .int .i64 mx, .bool name])])
          · (simp only [go_sem, *]; try rfl)
          · (simp only [go_sem, *]; try rfl)
          · simp
          · exact out2 hO (errOk_v q) (fun _ => rfl) hab
          · (simp only [go_sem, *, Tryz.results45]; try rfl)
          · (simp only [go_sem, *]; try rfl)
          · (simp only [go_sem, *]; try rfl)
          · exact h q (skipC (wordC s).2) ⟨k, 0, n, []⟩ hr2
      | none =>
        have hnu := fun (R : AOut → List Blk → Prop) hh => hnu R (fun n' hn' => by rw [hn] at hn'; cases hn') (fun _ => hh)
        have h := h0 (by simp only [hn, Option.map_none])
        simp only [cmB] at h
        clear h1 h0
        refine enter Tryz.func45 rfl (by decide +kernel) (by rw [Tryz.ntmps45]; simp) (by rw [Tryz.ntmps45]; decide) (fun hO => ?_); rw [Tryz.ntmps45]
        repeat' first
          | apply x_seq | apply x_skip | apply x_block | apply x_exit | apply x_ret | apply x_ops_nil | apply p_blk | apply p_exit_it | apply p_exit_hit | apply p_ret_it | apply p_ret_blk | apply p_panic_it | apply p_panic_blk | apply p_end
          | (apply p_exit_miss; (focus rfl))
          | (apply x_region; simp only [List.toList_toArray])
          | (apply x_step0; (focus rfl); (focus (simp only [go_sem, *]; (try rfl); done)); (focus rfl); simp only [putA])
          | (apply x_callA []; (focus (simp only [go_sem, *]; (try rfl); done)); (focus rfl); (focus (simp only [go_sem, *]; (try rfl); done)); (focus rfl); (iterate 2 (focus (simp only [go_sem, *]; (try rfl); done))); (first | (apply hnu)); simp only [afterCall, putA])
          | (apply x_panic; (focus (simp only [go_sem, *]; (try rfl); done)); (focus rfl); (focus (simp only [go_sem, *]; (try rfl); done)))
          | (apply x_step; (iterate 2 (focus (simp only [go_sem, *]; (try rfl); done))); (focus rfl); simp only [putA])
          | (apply x_unwanted; (focus (simp only [go_sem, *]; (try rfl); done)); (focus rfl); simp only [putA])
          | (apply x_condT; (focus (simp only [go_sem, *]; (try rfl); done)))
          | (apply x_condF; (focus (simp only [go_sem, *]; (try rfl); done)))
          | (apply x_guardS; (focus rfl); (fail_if_success (focus (show _ = some true; (focus (simp only [go_sem, *]; (try rfl); done))))); (focus (simp only [go_sem, *]; (try rfl); done)); all_goals (intro hb; try simp only [Bool.not_eq_true', Bool.not_eq_false'] at hb))
          | (apply x_condS; (focus (simp only [go_sem, *]; (try rfl); done)); all_goals (intro hb; try simp only [Bool.not_eq_true', Bool.not_eq_false'] at hb))
        intro q
        have hr2 := suf_skip hr1
        have hsk := skipL w0 (S.set b (Blk.cells [.int .i64 k, .int .i64 0, .int .i64 0, .str []])) a t (wordC s).2 (errV q) [(Blk.cells [.str kw, .sval false [], .bool true, .bool false, .bool false, .int .i64 lo, .int .i64 hi, .int .i64 mx, .bool name])] ht (errOk_v q) (hal _) hr1
        have hf := fail' w0 (S.set b (Blk.cells [.int .i64 k, .int .i64 0, .int .i64 0, .str []])) a t (scP t (skipC (wordC s).2) : Nat) (errV q) (errOk_v q) (hal _) [(Blk.cells [.str kw, .sval false [], .bool true, .bool false, .bool false, .int .i64 lo, .int .i64 hi, .int .i64 mx, .bool name])]
        by_cases hz : skipC (wordC s).2 = []
        · rw [decide_eq_true hz] at hsk
          clear hz
          repeat' first
            | apply x_seq | apply x_skip | apply x_block | apply x_exit | apply x_ret | apply x_ops_nil | apply p_blk | apply p_exit_it | apply p_exit_hit | apply p_ret_it | apply p_ret_blk | apply p_panic_it | apply p_panic_blk | apply p_end
            | (apply p_exit_miss; (focus rfl))
            | (apply x_region; simp only [List.toList_toArray])
            | (apply x_step0; (focus rfl); (focus (simp only [go_sem, *]; (try rfl); done)); (focus rfl); simp only [putA])
            | (apply x_callA []; (focus (simp only [go_sem, *]; (try rfl); done)); (focus rfl); (focus (simp only [go_sem, *]; (try rfl); done)); (focus rfl); (iterate 2 (focus (simp only [go_sem, *]; (try rfl); done))); (first | (apply hsk)); simp only [afterCall, putA])
            | (apply x_panic; (focus (simp only [go_sem, *]; (try rfl); done)); (focus rfl); (focus (simp only [go_sem, *]; (try rfl); done)))
            | (apply x_step; (iterate 2 (focus (simp only [go_sem, *]; (try rfl); done))); (focus rfl); simp only [putA])
            | (apply x_unwanted; (focus (simp only [go_sem, *]; (try rfl); done)); (focus rfl); simp only [putA])
            | (apply x_condT; (focus (simp only [go_sem, *]; (try rfl); done)))
            | (apply x_condF; (focus (simp only [go_sem, *]; (try rfl); done)))
            | (apply x_guardS; (focus rfl); (fail_if_success (focus (show _ = some true; (focus (simp only [go_sem, *]; (try rfl); done))))); (focus (simp only [go_sem, *]; (try rfl); done)); all_goals (intro hb; try simp only [Bool.not_eq_true', Bool.not_eq_false'] at hb))
            | (apply x_condS; (focus (simp only [go_sem, *]; (try rfl); done)); all_goals (intro hb; try simp only [Bool.not_eq_true', Bool.not_eq_false'] at hb))
          apply f_endO (S2 := (S.set b (Blk.cells [.int .i64 k, .int .i64 0, .int .i64 0, .str []])).set a (.cells [.str t, .int .i64 (scP t (skipC (wordC s).2) : Nat), errV q])) (L := [(Blk.cells [.str kw, .sval false [], .bool true, .bool false, .bool false, .int .i64 lo, .int .i64 hi, .int .i64 mx, .bool name])])
          · (simp only [go_sem, *]; try rfl)
          · (simp only [go_sem, *]; try rfl)
          · simp
          · exact out2 hO (errOk_v q) (fun _ => rfl) hab
          · (simp only [go_sem, *, Tryz.results45]; try rfl)
          · (simp only [go_sem, *]; try rfl)
          · (simp only [go_sem, *]; try rfl)
          · exact h q (skipC (wordC s).2) ⟨k, 0, 0, []⟩ hr2
        · rw [decide_eq_false hz] at hsk
          clear hz
          repeat' first
            | apply x_seq | apply x_skip | apply x_block | apply x_exit | apply x_ret | apply x_ops_nil | apply p_blk | apply p_exit_it | apply p_exit_hit | apply p_ret_it | apply p_ret_blk | apply p_panic_it | apply p_panic_blk | apply p_end
            | (apply p_exit_miss; (focus rfl))
            | (apply x_region; simp only [List.toList_toArray])
            | (apply x_step0; (focus rfl); (focus (simp only [go_sem, *]; (try rfl); done)); (focus rfl); simp only [putA])
            | (apply x_callA []; (focus (simp only [go_sem, *]; (try rfl); done)); (focus rfl); (focus (simp only [go_sem, *]; (try rfl); done)); (focus rfl); (iterate 2 (focus (simp only [go_sem, *]; (try rfl); done))); (first | (apply hsk) | (apply hf)); simp only [afterCall, putA])
            | (apply x_panic; (focus (simp only [go_sem, *]; (try rfl); done)); (focus rfl); (focus (simp only [go_sem, *]; (try rfl); done)))
            | (apply x_step; (iterate 2 (focus (simp only [go_sem, *]; (try rfl); done))); (focus rfl); simp only [putA])
            | (apply x_unwanted; (focus (simp only [go_sem, *]; (try rfl); done)); (focus rfl); simp only [putA])
            | (apply x_condT; (focus (simp only [go_sem, *]; (try rfl); done)))
            | (apply x_condF; (focus (simp only [go_sem, *]; (try rfl); done)))
            | (apply x_guardS; (focus rfl); (fail_if_success (focus (show _ = some true; (focus (simp only [go_sem, *]; (try rfl); done))))); (focus (simp only [go_sem, *]; (try rfl); done)); all_goals (intro hb; try simp only [Bool.not_eq_true', Bool.not_eq_false'] at hb))
            | (apply x_condS; (focus (simp only [go_sem, *]; (try rfl); done)); all_goals (intro hb; try simp only [Bool.not_eq_true', Bool.not_eq_false'] at hb))
          intro q2
          repeat' first
            | apply x_seq | apply x_skip | apply x_block | apply x_exit | apply x_ret | apply x_ops_nil | apply p_blk | apply p_exit_it | apply p_exit_hit | apply p_ret_it | apply p_ret_blk | apply p_panic_it | apply p_panic_blk | apply p_end
            | (apply p_exit_miss; (focus rfl))
            | (apply x_region; simp only [List.toList_toArray])
            | (apply x_step0; (focus rfl); (focus (simp only [go_sem, *]; (try rfl); done)); (focus rfl); simp only [putA])
            | (apply x_panic; (focus (simp only [go_sem, *]; (try rfl); done)); (focus rfl); (focus (simp only [go_sem, *]; (try rfl); done)))
            | (apply x_step; (iterate 2 (focus (simp only [go_sem, *]; (try rfl); done))); (focus rfl); simp only [putA])
            | (apply x_unwanted; (focus (simp only [go_sem, *]; (try rfl); done)); (focus rfl); simp only [putA])
            | (apply x_condT; (focus (simp only [go_sem, *]; (try rfl); done)))
            | (apply x_condF; (focus (simp only [go_sem, *]; (try rfl); done)))
            | (apply x_guardS; (focus rfl); (fail_if_success (focus (show _ = some true; (focus (simp only [go_sem, *]; (try rfl); done))))); (focus (simp only [go_sem, *]; (try rfl); done)); all_goals (intro hb; try simp only [Bool.not_eq_true', Bool.not_eq_false'] at hb))
            | (apply x_condS; (focus (simp only [go_sem, *]; (try rfl); done)); all_goals (intro hb; try simp only [Bool.not_eq_true', Bool.not_eq_false'] at hb))
          apply f_endO (S2 := (S.set b (Blk.cells [.int .i64 k, .int .i64 0, .int .i64 0, .str []])).set a (.cells [.str t, .int .i64 (scP t (skipC (wordC s).2) : Nat), errV q2])) (L := [(Blk.cells [.str kw, .sval false [], .bool true, .bool false, .bool false, .int .i64 lo, .int .i64 hi, .int .i64 mx, .bool name])])
          · (simp only [go_sem, *]; try rfl)
          · (simp only [go_sem, *]; try rfl)
          · simp
          · exact out2 hO (errOk_v q2) (fun _ => rfl) hab
          · (simp only [go_sem, *, Tryz.results45]; try rfl)
          · (simp only [go_sem, *]; try rfl)
          · (simp only [go_sem, *]; try rfl)
          · exact h q2 (skipC (wordC s).2) ⟨k, 0, 0, []⟩ hr2
    | false =>
      cases text with
      | true =>
        simp only [Bool.false_eq_true, if_false, if_true] at h1 h0
        simp only [cmB]
        by_cases hk : k = 12
        · have k1 : (k == 12) = true := by simpa using hk
          have hs0 := skipL w0 (S.set b (Blk.cells [.int .i64 k, .int .i64 0, .int .i64 0, .str []])) a t s .inil [(Blk.cells [.str kw, .sval false [], .bool false, .bool false, .bool true, .int .i64 lo, .int .i64 hi, .int .i64 mx, .bool name])] ht hi0 (hal _) hs
          by_cases hz0 : skipC s = []
          · have h := h1 ⟨k, 0, 0, []⟩ (by rw [if_pos ⟨hk, hz0⟩]; simp only; rw [if_pos (by rfl)])
            simp only [cmB] at h
            rw [decide_eq_true hz0, hz0] at hs0
            have hs1 := skipL w0 (S.set b (Blk.cells [.int .i64 k, .int .i64 0, .int .i64 0, .str []])) a t [] .inil [(Blk.cells [.str kw, .sval false [], .bool false, .bool false, .bool true, .int .i64 lo, .int .i64 hi, .int .i64 mx, .bool name])] ht hi0 (hal _) List.nil_suffix
            have e0 : skipC [] = [] := rfl
            rw [decide_eq_true e0, e0] at hs1
            clear h1 h0 hz0 hk e0
            refine enter Tryz.func45 rfl (by decide +kernel) (by rw [Tryz.ntmps45]; simp) (by rw [Tryz.ntmps45]; decide) (fun hO => ?_); rw [Tryz.ntmps45]
            repeat' first
              | apply x_seq | apply x_skip | apply x_block | apply x_exit | apply x_ret | apply x_ops_nil | apply p_blk | apply p_exit_it | apply p_exit_hit | apply p_ret_it | apply p_ret_blk | apply p_panic_it | apply p_panic_blk | apply p_end
              | (apply p_exit_miss; (focus rfl))
              | (apply x_region; simp only [List.toList_toArray])
              | (apply x_step0; (focus rfl); (focus (simp only [go_sem, *]; (try rfl); done)); (focus rfl); simp only [putA])
              | (apply x_callA []; (focus (simp only [go_sem, *]; (try rfl); done)); (focus rfl); (focus (simp only [go_sem, *]; (try rfl); done)); (focus rfl); (iterate 2 (focus (simp only [go_sem, *]; (try rfl); done))); (first | (apply hs0) | (apply hs1)); simp only [afterCall, putA])
              | (apply x_panic; (focus (simp only [go_sem, *]; (try rfl); done)); (focus rfl); (focus (simp only [go_sem, *]; (try rfl); done)))
              | (apply x_step; (iterate 2 (focus (simp only [go_sem, *]; (try rfl); done))); (focus rfl); simp only [putA])
              | (apply x_unwanted; (focus (simp only [go_sem, *]; (try rfl); done)); (focus rfl); simp only [putA])
              | (apply x_condT; (focus (simp only [go_sem, *]; (try rfl); done)))
              | (apply x_condF; (focus (simp only [go_sem, *]; (try rfl); done)))
              | (apply x_guardS; (focus rfl); (fail_if_success (focus (show _ = some true; (focus (simp only [go_sem, *]; (try rfl); done))))); (focus (simp only [go_sem, *]; (try rfl); done)); all_goals (intro hb; try simp only [Bool.not_eq_true', Bool.not_eq_false'] at hb))
              | (apply x_condS; (focus (simp only [go_sem, *]; (try rfl); done)); all_goals (intro hb; try simp only [Bool.not_eq_true', Bool.not_eq_false'] at hb))
            apply f_endO (S2 := (S.set b (Blk.cells [.int .i64 k, .int .i64 0, .int .i64 0, .str []])).set a (.cells [.str t, .int .i64 (scP t [] : Nat), .inil])) (L := [(Blk.cells [.str kw, .sval false [], .bool false, .bool false, .bool true, .int .i64 lo, .int .i64 hi, .int .i64 mx, .bool name])])
            · (simp only [go_sem, *]; try rfl)
            · (simp only [go_sem, *]; try rfl)
            · simp
            · exact out2 hO hi0 (fun _ => rfl) hab
            · (simp only [go_sem, *, Tryz.results45]; try rfl)
            · (simp only [go_sem, *]; try rfl)
            · (simp only [go_sem, *]; try rfl)
            · exact h
          · rw [decide_eq_false hz0] at hs0
            have hns : ¬ (k = 12 ∧ skipC s = []) := fun e => hz0 e.2
            simp only [if_neg hns] at h1 h0
            clear hz0 hk hns
            have hqu := fun (R : AOut → List Blk → Prop) => quoL w0 (S.set b (Blk.cells [.int .i64 k, .int .i64 0, .int .i64 0, .str []])) a t hPU (skipC s) [(Blk.cells [.str kw, .sval false [], .bool false, .bool false, .bool true, .int .i64 lo, .int .i64 hi, .int .i64 mx, .bool name])] ht (hal _) (suf_skip hs) R
            simp only [quo_skip] at hqu
            cases hq : quoC s with
            | some w =>
              obtain ⟨x, r⟩ := w
              have hr := (quo_suf hq).trans hs
              have hqu := fun (R : AOut → List Blk → Prop) hh => hqu R (fun x' r' hx' _ => by rw [hq] at hx'; cases hx'; exact hh) (fun hn' => by rw [hq] at hn'; cases hn')
              have hsk := skipL w0 (S.set b (Blk.cells [.int .i64 k, .int .i64 0, .int .i64 0, .str x])) a t r .inil [(Blk.cells [.str kw, .sval false [], .bool false, .bool false, .bool true, .int .i64 lo, .int .i64 hi, .int .i64 mx, .bool name])] ht hi0 (hal _) hr
              have hr2 := suf_skip hr
              by_cases hz : skipC r = []
              · have h := h1 ⟨k, 0, 0, x⟩ (by simp only [hq, Option.map_some]; rw [if_pos hz])
                simp only [cmB] at h
                rw [decide_eq_true hz, hz] at hsk
                clear h1 h0 hz
                refine enter Tryz.func45 rfl (by decide +kernel) (by rw [Tryz.ntmps45]; simp) (by rw [Tryz.ntmps45]; decide) (fun hO => ?_); rw [Tryz.ntmps45]
                repeat' first
                  | apply x_seq | apply x_skip | apply x_block | apply x_exit | apply x_ret | apply x_ops_nil | apply p_blk | apply p_exit_it | apply p_exit_hit | apply p_ret_it | apply p_ret_blk | apply p_panic_it | apply p_panic_blk | apply p_end
                  | (apply p_exit_miss; (focus rfl))
                  | (apply x_region; simp only [List.toList_toArray])
                  | (apply x_step0; (focus rfl); (focus (simp only [go_sem, *]; (try rfl); done)); (focus rfl); simp only [putA])
                  | (apply x_callA []; (focus (simp only [go_sem, *]; (try rfl); done)); (focus rfl); (focus (simp only [go_sem, *]; (try rfl); done)); (focus rfl); (iterate 2 (focus (simp only [go_sem, *]; (try rfl); done))); (first | (apply hs0) | (apply hqu) | (apply hsk)); simp only [afterCall, putA])
                  | (apply x_panic; (focus (simp only [go_sem, *]; (try rfl); done)); (focus rfl); (focus (simp only [go_sem, *]; (try rfl); done)))
                  | (apply x_step; (iterate 2 (focus (simp only [go_sem, *]; (try rfl); done))); (focus rfl); simp only [putA])
                  | (apply x_unwanted; (focus (simp only [go_sem, *]; (try rfl); done)); (focus rfl); simp only [putA])
                  | (apply x_condT; (focus (simp only [go_sem, *]; (try rfl); done)))
                  | (apply x_condF; (focus (simp only [go_sem, *]; (try rfl); done)))
                  | (apply x_guardS; (focus rfl); (fail_if_success (focus (show _ = some true; (focus (simp only [go_sem, *]; (try rfl); done))))); (focus (simp only [go_sem, *]; (try rfl); done)); all_goals (intro hb; try simp only [Bool.not_eq_true', Bool.not_eq_false'] at hb))
                  | (apply x_condS; (focus (simp only [go_sem, *]; (try rfl); done)); all_goals (intro hb; try simp only [Bool.not_eq_true', Bool.not_eq_false'] at hb))
                apply f_endO (S2 := (S.set b (Blk.cells [.int .i64 k, .int .i64 0, .int .i64 0, .str x])).set a (.cells [.str t, .int .i64 (scP t [] : Nat), .inil])) (L := [(Blk.cells [.str kw, .sval false [], .bool false, .bool false, .bool true, .int .i64 lo, .int .i64 hi, .int .i64 mx, .bool name])])
                · (simp only [go_sem, *]; try rfl)
                · (simp only [go_sem, *]; try rfl)
                · simp
                · exact out2 hO hi0 (fun _ => rfl) hab
                · (simp only [go_sem, *, Tryz.results45]; try rfl)
                · (simp only [go_sem, *]; try rfl)
                · (simp only [go_sem, *]; try rfl)
                · exact h
              · have h := h0 (by simp only [hq, Option.map_some]; rw [if_neg hz])
                have hf := fail' w0 (S.set b (Blk.cells [.int .i64 k, .int .i64 0, .int .i64 0, .str x])) a t (scP t (skipC r) : Nat) .inil hi0 (hal _) [(Blk.cells [.str kw, .sval false [], .bool false, .bool false, .bool true, .int .i64 lo, .int .i64 hi, .int .i64 mx, .bool name])]
                simp only [cmB] at h
                rw [decide_eq_false hz] at hsk
                clear h1 h0 hz
                refine enter Tryz.func45 rfl (by decide +kernel) (by rw [Tryz.ntmps45]; simp) (by rw [Tryz.ntmps45]; decide) (fun hO => ?_); rw [Tryz.ntmps45]
                repeat' first
                  | apply x_seq | apply x_skip | apply x_block | apply x_exit | apply x_ret | apply x_ops_nil | apply p_blk | apply p_exit_it | apply p_exit_hit | apply p_ret_it | apply p_ret_blk | apply p_panic_it | apply p_panic_blk | apply p_end
                  | (apply p_exit_miss; (focus rfl))
                  | (apply x_region; simp only [List.toList_toArray])
                  | (apply x_step0; (focus rfl); (focus (simp only [go_sem, *]; (try rfl); done)); (focus rfl); simp only [putA])
                  | (apply x_callA []; (focus (simp only [go_sem, *]; (try rfl); done)); (focus rfl); (focus (simp only [go_sem, *]; (try rfl); done)); (focus rfl); (iterate 2 (focus (simp only [go_sem, *]; (try rfl); done))); (first | (apply hs0) | (apply hqu) | (apply hsk) | (apply hf)); simp only [afterCall, putA])
                  | (apply x_panic; (focus (simp only [go_sem, *]; (try rfl); done)); (focus rfl); (focus (simp only [go_sem, *]; (try rfl); done)))
                  | (apply x_step; (iterate 2 (focus (simp only [go_sem, *]; (try rfl); done))); (focus rfl); simp only [putA])
                  | (apply x_unwanted; (focus (simp only [go_sem, *]; (try rfl); done)); (focus rfl); simp only [putA])
                  | (apply x_condT; (focus (simp only [go_sem, *]; (try rfl); done)))
                  | (apply x_condF; (focus (simp only [go_sem, *]; (try rfl); done)))
                  | (apply x_guardS; (focus rfl); (fail_if_success (focus (show _ = some true; (focus (simp only [go_sem, *]; (try rfl); done))))); (focus (simp only [go_sem, *]; (try rfl); done)); all_goals (intro hb; try simp only [Bool.not_eq_true', Bool.not_eq_false'] at hb))
                  | (apply x_condS; (focus (simp only [go_sem, *]; (try rfl); done)); all_goals (intro hb; try simp only [Bool.not_eq_true', Bool.not_eq_false'] at hb))
                intro q
                repeat' first
                  | apply x_seq | apply x_skip | apply x_block | apply x_exit | apply x_ret | apply x_ops_nil | apply p_blk | apply p_exit_it | apply p_exit_hit | apply p_ret_it | apply p_ret_blk | apply p_panic_it | apply p_panic_blk | apply p_end
                  | (apply p_exit_miss; (focus rfl))
                  | (apply x_region; simp only [List.toList_toArray])
                  | (apply x_step0; (focus rfl); (focus (simp only [go_sem, *]; (try rfl); done)); (focus rfl); simp only [putA])
                  | (apply x_panic; (focus (simp only [go_sem, *]; (try rfl); done)); (focus rfl); (focus (simp only [go_sem, *]; (try rfl); done)))
                  | (apply x_step; (iterate 2 (focus (simp only [go_sem, *]; (try rfl); done))); (focus rfl); simp only [putA])
                  | (apply x_unwanted; (focus (simp only [go_sem, *]; (try rfl); done)); (focus rfl); simp only [putA])
                  | (apply x_condT; (focus (simp only [go_sem, *]; (try rfl); done)))
                  | (apply x_condF; (focus (simp only [go_sem, *]; (try rfl); done)))
                  | (apply x_guardS; (focus rfl); (fail_if_success (focus (show _ = some true; (focus (simp only [go_sem, *]; (try rfl); done))))); (focus (simp only [go_sem, *]; (try rfl); done)); all_goals (intro hb; try simp only [Bool.not_eq_true', Bool.not_eq_false'] at hb))
                  | (apply x_condS; (focus (simp only [go_sem, *]; (try rfl); done)); all_goals (intro hb; try simp only [Bool.not_eq_true', Bool.not_eq_false'] at hb))
                apply f_endO (S2 := (S.set b (Blk.cells [.int .i64 k, .int .i64 0, .int .i64 0, .str x])).set a (.cells [.str t, .int .i64 (scP t (skipC r) : Nat), errV q])) (L := [(Blk.cells [.str kw, .sval false [], .bool false, .bool false, .bool true, .int .i64 lo, .int .i64 hi, .int .i64 mx, .bool name])])
                · (simp only [go_sem, *]; try rfl)
                · (simp only [go_sem, *]; try rfl)
                · simp
                · exact out2 hO (errOk_v q) (fun _ => rfl) hab
                · (simp only [go_sem, *, Tryz.results45]; try rfl)
                · (simp only [go_sem, *]; try rfl)
                · (simp only [go_sem, *]; try rfl)
                · exact h q (skipC r) ⟨k, 0, 0, x⟩ hr2
            | none =>
              have hqu := fun (R : AOut → List Blk → Prop) hh => hqu R (fun x' r' hx' _ => by rw [hq] at hx'; cases hx') (fun _ => hh)
              have h := h0 (by simp only [hq, Option.map_none])
              simp only [cmB] at h
              clear h1 h0
              refine enter Tryz.func45 rfl (by decide +kernel) (by rw [Tryz.ntmps45]; simp) (by rw [Tryz.ntmps45]; decide) (fun hO => ?_); rw [Tryz.ntmps45]
              repeat' first
                | apply x_seq | apply x_skip | apply x_block | apply x_exit | apply x_ret | apply x_ops_nil | apply p_blk | apply p_exit_it | apply p_exit_hit | apply p_ret_it | apply p_ret_blk | apply p_panic_it | apply p_panic_blk | apply p_end
                | (apply p_exit_miss; (focus rfl))
                | (apply x_region; simp only [List.toList_toArray])
                | (apply x_step0; (focus rfl); (focus (simp only [go_sem, *]; (try rfl); done)); (focus rfl); simp only [putA])
                | (apply x_callA []; (focus (simp only [go_sem, *]; (try rfl); done)); (focus rfl); (focus (simp only [go_sem, *]; (try rfl); done)); (focus rfl); (iterate 2 (focus (simp only [go_sem, *]; (try rfl); done))); (first | (apply hs0) | (apply hqu)); simp only [afterCall, putA])
                | (apply x_panic; (focus (simp only [go_sem, *]; (try rfl); done)); (focus rfl); (focus (simp only [go_sem, *]; (try rfl); done)))
                | (apply x_step; (iterate 2 (focus (simp only [go_sem, *]; (try rfl); done))); (focus rfl); simp only [putA])
                | (apply x_unwanted; (focus (simp only [go_sem, *]; (try rfl); done)); (focus rfl); simp only [putA])
                | (apply x_condT; (focus (simp only [go_sem, *]; (try rfl); done)))
                | (apply x_condF; (focus (simp only [go_sem, *]; (try rfl); done)))
                | (apply x_guardS; (focus rfl); (fail_if_success (focus (show _ = some true; (focus (simp only [go_sem, *]; (try rfl); done))))); (focus (simp only [go_sem, *]; (try rfl); done)); all_goals (intro hb; try simp only [Bool.not_eq_true', Bool.not_eq_false'] at hb))
                | (apply x_condS; (focus (simp only [go_sem, *]; (try rfl); done)); all_goals (intro hb; try simp only [Bool.not_eq_true', Bool.not_eq_false'] at hb))
              intro q r hr
              have hr2 := suf_skip hr
              have hsk := skipL w0 (S.set b (Blk.cells [.int .i64 k, .int .i64 0, .int .i64 0, .str []])) a t r (errV q) [(Blk.cells [.str kw, .sval false [], .bool false, .bool false, .bool true, .int .i64 lo, .int .i64 hi, .int .i64 mx, .bool name])] ht (errOk_v q) (hal _) hr
              have hf := fail' w0 (S.set b (Blk.cells [.int .i64 k, .int .i64 0, .int .i64 0, .str []])) a t (scP t (skipC r) : Nat) (errV q) (errOk_v q) (hal _) [(Blk.cells [.str kw, .sval false [], .bool false, .bool false, .bool true, .int .i64 lo, .int .i64 hi, .int .i64 mx, .bool name])]
              by_cases hz : skipC r = []
              · rw [decide_eq_true hz] at hsk
                clear hz
                repeat' first
                  | apply x_seq | apply x_skip | apply x_block | apply x_exit | apply x_ret | apply x_ops_nil | apply p_blk | apply p_exit_it | apply p_exit_hit | apply p_ret_it | apply p_ret_blk | apply p_panic_it | apply p_panic_blk | apply p_end
                  | (apply p_exit_miss; (focus rfl))
                  | (apply x_region; simp only [List.toList_toArray])
                  | (apply x_step0; (focus rfl); (focus (simp only [go_sem, *]; (try rfl); done)); (focus rfl); simp only [putA])
                  | (apply x_callA []; (focus (simp only [go_sem, *]; (try rfl); done)); (focus rfl); (focus (simp only [go_sem, *]; (try rfl); done)); (focus rfl); (iterate 2 (focus (simp only [go_sem, *]; (try rfl); done))); (first | (apply hsk)); simp only [afterCall, putA])
                  | (apply x_panic; (focus (simp only [go_sem, *]; (try rfl); done)); (focus rfl); (focus (simp only [go_sem, *]; (try rfl); done)))
                  | (apply x_step; (iterate 2 (focus (simp only [go_sem, *]; (try rfl); done))); (focus rfl); simp only [putA])
                  | (apply x_unwanted; (focus (simp only [go_sem, *]; (try rfl); done)); (focus rfl); simp only [putA])
                  | (apply x_condT; (focus (simp only [go_sem, *]; (try rfl); done)))
                  | (apply x_condF; (focus (simp only [go_sem, *]; (try rfl); done)))
                  | (apply x_guardS; (focus rfl); (fail_if_success (focus (show _ = some true; (focus (simp only [go_sem, *]; (try rfl); done))))); (focus (simp only [go_sem, *]; (try rfl); done)); all_goals (intro hb; try simp only [Bool.not_eq_true', Bool.not_eq_false'] at hb))
                  | (apply x_condS; (focus (simp only [go_sem, *]; (try rfl); done)); all_goals (intro hb; try simp only [Bool.not_eq_true', Bool.not_eq_false'] at hb))
                apply f_endO (S2 := (S.set b (Blk.cells [.int .i64 k, .int .i64 0, .int .i64 0, .str []])).set a (.cells [.str t, .int .i64 (scP t (skipC r) : Nat), errV q])) (L := [(Blk.cells [.str kw, .sval false [], .bool false, .bool false, .bool true, .int .i64 lo, .int .i64 hi, .int .i64 mx, .bool name])])
                · (simp only [go_sem, *]; try rfl)
                · (simp only [go_sem, *]; try rfl)
                · simp
                · exact out2 hO (errOk_v q) (fun _ => rfl) hab
                · (simp only [go_sem, *, Tryz.results45]; try rfl)
                · (simp only [go_sem, *]; try rfl)
                · (simp only [go_sem, *]; try rfl)
                · exact h q (skipC r) ⟨k, 0, 0, []⟩ hr2
              · rw [decide_eq_false hz] at hsk
                clear hz
                repeat' first
                  | apply x_seq | apply x_skip | apply x_block | apply x_exit | apply x_ret | apply x_ops_nil | apply p_blk | apply p_exit_it | apply p_exit_hit | apply p_ret_it | apply p_ret_blk | apply p_panic_it | apply p_panic_blk | apply p_end
                  | (apply p_exit_miss; (focus rfl))
                  | (apply x_region; simp only [List.toList_toArray])
                  | (apply x_step0; (focus rfl); (focus (simp only [go_sem, *]; (try rfl); done)); (focus rfl); simp only [putA])
                  | (apply x_callA []; (focus (simp only [go_sem, *]; (try rfl); done)); (focus rfl); (focus (simp only [go_sem, *]; (try rfl); done)); (focus rfl); (iterate 2 (focus (simp only [go_sem, *]; (try rfl); done))); (first | (apply hsk) | (apply hf)); simp only [afterCall, putA])
                  | (apply x_panic; (focus (simp only [go_sem, *]; (try rfl); done)); (focus rfl); (focus (simp only [go_sem, *]; (try rfl); done)))
                  | (apply x_step; (iterate 2 (focus (simp only [go_sem, *]; (try rfl); done))); (focus rfl); simp only [putA])
                  | (apply x_unwanted; (focus (simp only [go_sem, *]; (try rfl); done)); (focus rfl); simp only [putA])
                  | (apply x_condT; (focus (simp only [go_sem, *]; (try rfl); done)))
                  | (apply x_condF; (focus (simp only [go_sem, *]; (try rfl); done)))
                  | (apply x_guardS; (focus rfl); (fail_if_success (focus (show _ = some true; (focus (simp only [go_sem, *]; (try rfl); done))))); (focus (simp only [go_sem, *]; (try rfl); done)); all_goals (intro hb; try simp only [Bool.not_eq_true', Bool.not_eq_false'] at hb))
                  | (apply x_condS; (focus (simp only [go_sem, *]; (try rfl); done)); all_goals (intro hb; try simp only [Bool.not_eq_true', Bool.not_eq_false'] at hb))
                intro q2
                repeat' first
                  | apply x_seq | apply x_skip | apply x_block | apply x_exit | apply x_ret | apply x_ops_nil | apply p_blk | apply p_exit_it | apply p_exit_hit | apply p_ret_it | apply p_ret_blk | apply p_panic_it | apply p_panic_blk | apply p_end
                  | (apply p_exit_miss; (focus rfl))
                  | (apply x_region; simp only [List.toList_toArray])
                  | (apply x_step0; (focus rfl); (focus (simp only [go_sem, *]; (try rfl); done)); (focus rfl); simp only [putA])
                  | (apply x_panic; (focus (simp only [go_sem, *]; (try rfl); done)); (focus rfl); (focus (simp only [go_sem, *]; (try rfl); done)))
                  | (apply x_step; (iterate 2 (focus (simp only [go_sem, *]; (try rfl); done))); (focus rfl); simp only [putA])
                  | (apply x_unwanted; (focus (simp only [go_sem, *]; (try rfl); done)); (focus rfl); simp only [putA])
                  | (apply x_condT; (focus (simp only [go_sem, *]; (try rfl); done)))
                  | (apply x_condF; (focus (simp only [go_sem, *]; (try rfl); done)))
                  | (apply x_guardS; (focus rfl); (fail_if_success (focus (show _ = some true; (focus (simp only [go_sem, *]; (try rfl); done))))); (focus (simp only [go_sem, *]; (try rfl); done)); all_goals (intro hb; try simp only [Bool.not_eq_true', Bool.not_eq_false'] at hb))
                  | (apply x_condS; (focus (simp only [go_sem, *]; (try rfl); done)); all_goals (intro hb; try simp only [Bool.not_eq_true', Bool.not_eq_false'] at hb))
                apply f_endO (S2 := (S.set b (Blk.cells [.int .i64 k, .int .i64 0, .int .i64 0, .str []])).set a (.cells [.str t, .int .i64 (scP t (skipC r) : Nat), errV q2])) (L := [(Blk.cells [.str kw, .sval false [], .bool false, .bool false, .bool true, .int .i64 lo, .int .i64 hi, .int .i64 mx, .bool name])])
                · (simp only [go_sem, *]; try rfl)
                · (simp only [go_sem, *]; try rfl)
                · simp
                · exact out2 hO (errOk_v q2) (fun _ => rfl) hab
                · (simp only [go_sem, *, Tryz.results45]; try rfl)
                · (simp only [go_sem, *]; try rfl)
                · (simp only [go_sem, *]; try rfl)
                · exact h q2 (skipC r) ⟨k, 0, 0, []⟩ hr2
        · have k1 : (k == 12) = false := by simpa using hk
          have hns : ¬ (k = 12 ∧ skipC s = []) := fun e => hk e.1
          simp only [if_neg hns] at h1 h0
          clear hk hns
          have hqu := fun (R : AOut → List Blk → Prop) => quoL w0 (S.set b (Blk.cells [.int .i64 k, .int .i64 0, .int .i64 0, .str []])) a t hPU s [(Blk.cells [.str kw, .sval false [], .bool false, .bool false, .bool true, .int .i64 lo, .int .i64 hi, .int .i64 mx, .bool name])] ht (hal _) hs R
          cases hq : quoC s with
          | some w =>
            obtain ⟨x, r⟩ := w
            have hr := (quo_suf hq).trans hs
            have hqu := fun (R : AOut → List Blk → Prop) hh => hqu R (fun x' r' hx' _ => by rw [hq] at hx'; cases hx'; exact hh) (fun hn' => by rw [hq] at hn'; cases hn')
            have hsk := skipL w0 (S.set b (Blk.cells [.int .i64 k, .int .i64 0, .int .i64 0, .str x])) a t r .inil [(Blk.cells [.str kw, .sval false [], .bool false, .bool false, .bool true, .int .i64 lo, .int .i64 hi, .int .i64 mx, .bool name])] ht hi0 (hal _) hr
            have hr2 := suf_skip hr
            by_cases hz : skipC r = []
            · have h := h1 ⟨k, 0, 0, x⟩ (by simp only [hq, Option.map_some]; rw [if_pos hz])
              simp only [cmB] at h
              rw [decide_eq_true hz, hz] at hsk
              clear h1 h0 hz
              refine enter Tryz.func45 rfl (by decide +kernel) (by rw [Tryz.ntmps45]; simp) (by rw [Tryz.ntmps45]; decide) (fun hO => ?_); rw [Tryz.ntmps45]
              repeat' first
                | apply x_seq | apply x_skip | apply x_block | apply x_exit | apply x_ret | apply x_ops_nil | apply p_blk | apply p_exit_it | apply p_exit_hit | apply p_ret_it | apply p_ret_blk | apply p_panic_it | apply p_panic_blk | apply p_end
                | (apply p_exit_miss; (focus rfl))
                | (apply x_region; simp only [List.toList_toArray])
                | (apply x_step0; (focus rfl); (focus (simp only [go_sem, *]; (try rfl); done)); (focus rfl); simp only [putA])
                | (apply x_callA []; (focus (simp only [go_sem, *]; (try rfl); done)); (focus rfl); (focus (simp only [go_sem, *]; (try rfl); done)); (focus rfl); (iterate 2 (focus (simp only [go_sem, *]; (try rfl); done))); (first | (apply hqu) | (apply hsk)); simp only [afterCall, putA])
                | (apply x_panic; (focus (simp only [go_sem, *]; (try rfl); done)); (focus rfl); (focus (simp only [go_sem, *]; (try rfl); done)))
                | (apply x_step; (iterate 2 (focus (simp only [go_sem, *]; (try rfl); done))); (focus rfl); simp only [putA])
                | (apply x_unwanted; (focus (simp only [go_sem, *]; (try rfl); done)); (focus rfl); simp only [putA])
                | (apply x_condT; (focus (simp only [go_sem, *]; (try rfl); done)))
                | (apply x_condF; (focus (simp only [go_sem, *]; (try rfl); done)))
                | (apply x_guardS; (focus rfl); (fail_if_success (focus (show _ = some true; (focus (simp only [go_sem, *]; (try rfl); done))))); (focus (simp only [go_sem, *]; (try rfl); done)); all_goals (intro hb; try simp only [Bool.not_eq_true', Bool.not_eq_false'] at hb))
                | (apply x_condS; (focus (simp only [go_sem, *]; (try rfl); done)); all_goals (intro hb; try simp only [Bool.not_eq_true', Bool.not_eq_false'] at hb))
              apply f_endO (S2 := (S.set b (Blk.cells [.int .i64 k, .int .i64 0, .int .i64 0, .str x])).set a (.cells [.str t, .int .i64 (scP t [] : Nat), .inil])) (L := [(Blk.cells [.str kw, .sval false [], .bool false, .bool false, .bool true, .int .i64 lo, .int .i64 hi, .int .i64 mx, .bool name])])
              · (simp only [go_sem, *]; try rfl)
              · (simp only [go_sem, *]; try rfl)
              · simp
              · exact out2 hO hi0 (fun _ => rfl) hab
              · (simp only [go_sem, *, Tryz.results45]; try rfl)
              · (simp only [go_sem, *]; try rfl)
              · (simp only [go_sem, *]; try rfl)
              · exact h
            · have h := h0 (by simp only [hq, Option.map_some]; rw [if_neg hz])
              have hf := fail' w0 (S.set b (Blk.cells [.int .i64 k, .int .i64 0, .int .i64 0, .str x])) a t (scP t (skipC r) : Nat) .inil hi0 (hal _) [(Blk.cells [.str kw, .sval false [], .bool false, .bool false, .bool true, .int .i64 lo, .int .i64 hi, .int .i64 mx, .bool name])]
              simp only [cmB] at h
              rw [decide_eq_false hz] at hsk
              clear h1 h0 hz
              refine enter Tryz.func45 rfl (by decide +kernel) (by rw [Tryz.ntmps45]; simp) (by rw [Tryz.ntmps45]; decide) (fun hO => ?_); rw [Tryz.ntmps45]
              repeat' first
                | apply x_seq | apply x_skip | apply x_block | apply x_exit | apply x_ret | apply x_ops_nil | apply p_blk | apply p_exit_it | apply p_exit_hit | apply p_ret_it | apply p_ret_blk | apply p_panic_it | apply p_panic_blk | apply p_end
                | (apply p_exit_miss; (focus rfl))
                | (apply x_region; simp only [List.toList_toArray])
                | (apply x_step0; (focus rfl); (focus (simp only [go_sem, *]; (try rfl); done)); (focus rfl); simp only [putA])
                | (apply x_callA []; (focus (simp only [go_sem, *]; (try rfl); done)); (focus rfl); (focus (simp only [go_sem, *]; (try rfl); done)); (focus rfl); (iterate 2 (focus (simp only [go_sem, *]; (try rfl); done))); (first | (apply hqu) | (apply hsk) | (apply hf)); simp only [afterCall, putA])
                | (apply x_panic; (focus (simp only [go_sem, *]; (try rfl); done)); (focus rfl); (focus (simp only [go_sem, *]; (try rfl); done)))
                | (apply x_step; (iterate 2 (focus (simp only [go_sem, *]; (try rfl); done))); (focus rfl); simp only [putA])
                | (apply x_unwanted; (focus (simp only [go_sem, *]; (try rfl); done)); (focus rfl); simp only [putA])
                | (apply x_condT; (focus (simp only [go_sem, *]; (try rfl); done)))
                | (apply x_condF; (focus (simp only [go_sem, *]; (try rfl); done)))
                | (apply x_guardS; (focus rfl); (fail_if_success (focus (show _ = some true; (focus (simp only [go_sem, *]; (try rfl); done))))); (focus (simp only [go_sem, *]; (try rfl); done)); all_goals (intro hb; try simp only [Bool.not_eq_true', Bool.not_eq_false'] at hb))
                | (apply x_condS; (focus (simp only [go_sem, *]; (try rfl); done)); all_goals (intro hb; try simp only [Bool.not_eq_true', Bool.not_eq_false'] at hb))
              intro q
              repeat' first
                | apply x_seq | apply x_skip | apply x_block | apply x_exit | apply x_ret | apply x_ops_nil | apply p_blk | apply p_exit_it | apply p_exit_hit | apply p_ret_it | apply p_ret_blk | apply p_panic_it | apply p_panic_blk | apply p_end
                | (apply p_exit_miss; (focus rfl))
                | (apply x_region; simp only [List.toList_toArray])
                | (apply x_step0; (focus rfl); (focus (simp only [go_sem, *]; (try rfl); done)); (focus rfl); simp only [putA])
                | (apply x_panic; (focus (simp only [go_sem, *]; (try rfl); done)); (focus rfl); (focus (simp only [go_sem, *]; (try rfl); done)))
                | (apply x_step; (iterate 2 (focus (simp only [go_sem, *]; (try rfl); done))); (focus rfl); simp only [putA])
                | (apply x_unwanted; (focus (simp only [go_sem, *]; (try rfl); done)); (focus rfl); simp only [putA])
                | (apply x_condT; (focus (simp only [go_sem, *]; (try rfl); done)))
                | (apply x_condF; (focus (simp only [go_sem, *]; (try rfl); done)))
                | (apply x_guardS; (focus rfl); (fail_if_success (focus (show _ = some true; (focus (simp only [go_sem, *]; (try rfl); done))))); (focus (simp only [go_sem, *]; (try rfl); done)); all_goals (intro hb; try simp only [Bool.not_eq_true', Bool.not_eq_false'] at hb))
                | (apply x_condS; (focus (simp only [go_sem, *]; (try rfl); done)); all_goals (intro hb; try simp only [Bool.not_eq_true', Bool.not_eq_false'] at hb))
              apply f_endO (S2 := (S.set b (Blk.cells [.int .i64 k, .int .i64 0, .int .i64 0, .str x])).set a (.cells [.str t, .int .i64 (scP t (skipC r) : Nat), errV q])) (L := [(Blk.cells [.str kw, .sval false [], .bool false, .bool false, .bool true, .int .i64 lo, .int .i64 hi, .int .i64 mx, .bool name])])
              · (simp only [go_sem, *]; try rfl)
              · (simp only [go_sem, *]; try rfl)
              · simp
              · exact out2 hO (errOk_v q) (fun _ => rfl) hab
              · (simp only [go_sem, *, Tryz.results45]; try rfl)
              · (simp only [go_sem, *]; try rfl)
              · (simp only [go_sem, *]; try rfl)
              · exact h q (skipC r) ⟨k, 0, 0, x⟩ hr2
          | none =>
            have hqu := fun (R : AOut → List Blk → Prop) hh => hqu R (fun x' r' hx' _ => by rw [hq] at hx'; cases hx') (fun _ => hh)
            have h := h0 (by simp only [hq, Option.map_none])
            simp only [cmB] at h
            clear h1 h0
            refine enter Tryz.func45 rfl (by decide +kernel) (by rw [Tryz.ntmps45]; simp) (by rw [Tryz.ntmps45]; decide) (fun hO => ?_); rw [Tryz.ntmps45]
            repeat' first
              | apply x_seq | apply x_skip | apply x_block | apply x_exit | apply x_ret | apply x_ops_nil | apply p_blk | apply p_exit_it | apply p_exit_hit | apply p_ret_it | apply p_ret_blk | apply p_panic_it | apply p_panic_blk | apply p_end
              | (apply p_exit_miss; (focus rfl))
              | (apply x_region; simp only [List.toList_toArray])
              | (apply x_step0; (focus rfl); (focus (simp only [go_sem, *]; (try rfl); done)); (focus rfl); simp only [putA])
              | (apply x_callA []; (focus (simp only [go_sem, *]; (try rfl); done)); (focus rfl); (focus (simp only [go_sem, *]; (try rfl); done)); (focus rfl); (iterate 2 (focus (simp only [go_sem, *]; (try rfl); done))); (first | (apply hqu)); simp only [afterCall, putA])
              | (apply x_panic; (focus (simp only [go_sem, *]; (try rfl); done)); (focus rfl); (focus (simp only [go_sem, *]; (try rfl); done)))
              | (apply x_step; (iterate 2 (focus (simp only [go_sem, *]; (try rfl); done))); (focus rfl); simp only [putA])
              | (apply x_unwanted; (focus (simp only [go_sem, *]; (try rfl); done)); (focus rfl); simp only [putA])
              | (apply x_condT; (focus (simp only [go_sem, *]; (try rfl); done)))
              | (apply x_condF; (focus (simp only [go_sem, *]; (try rfl); done)))
              | (apply x_guardS; (focus rfl); (fail_if_success (focus (show _ = some true; (focus (simp only [go_sem, *]; (try rfl); done))))); (focus (simp only [go_sem, *]; (try rfl); done)); all_goals (intro hb; try simp only [Bool.not_eq_true', Bool.not_eq_false'] at hb))
              | (apply x_condS; (focus (simp only [go_sem, *]; (try rfl); done)); all_goals (intro hb; try simp only [Bool.not_eq_true', Bool.not_eq_false'] at hb))
            intro q r hr
            have hr2 := suf_skip hr
            have hsk := skipL w0 (S.set b (Blk.cells [.int .i64 k, .int .i64 0, .int .i64 0, .str []])) a t r (errV q) [(Blk.cells [.str kw, .sval false [], .bool false, .bool false, .bool true, .int .i64 lo, .int .i64 hi, .int .i64 mx, .bool name])] ht (errOk_v q) (hal _) hr
            have hf := fail' w0 (S.set b (Blk.cells [.int .i64 k, .int .i64 0, .int .i64 0, .str []])) a t (scP t (skipC r) : Nat) (errV q) (errOk_v q) (hal _) [(Blk.cells [.str kw, .sval false [], .bool false, .bool false, .bool true, .int .i64 lo, .int .i64 hi, .int .i64 mx, .bool name])]
            by_cases hz : skipC r = []
            · rw [decide_eq_true hz] at hsk
              clear hz
              repeat' first
                | apply x_seq | apply x_skip | apply x_block | apply x_exit | apply x_ret | apply x_ops_nil | apply p_blk | apply p_exit_it | apply p_exit_hit | apply p_ret_it | apply p_ret_blk | apply p_panic_it | apply p_panic_blk | apply p_end
                | (apply p_exit_miss; (focus rfl))
                | (apply x_region; simp only [List.toList_toArray])
                | (apply x_step0; (focus rfl); (focus (simp only [go_sem, *]; (try rfl); done)); (focus rfl); simp only [putA])
                | (apply x_callA []; (focus (simp only [go_sem, *]; (try rfl); done)); (focus rfl); (focus (simp only [go_sem, *]; (try rfl); done)); (focus rfl); (iterate 2 (focus (simp only [go_sem, *]; (try rfl); done))); (first | (apply hsk)); simp only [afterCall, putA])
                | (apply x_panic; (focus (simp only [go_sem, *]; (try rfl); done)); (focus rfl); (focus (simp only [go_sem, *]; (try rfl); done)))
                | (apply x_step; (iterate 2 (focus (simp only [go_sem, *]; (try rfl); done))); (focus rfl); simp only [putA])
                | (apply x_unwanted; (focus (simp only [go_sem, *]; (try rfl); done)); (focus rfl); simp only [putA])
                | (apply x_condT; (focus (simp only [go_sem, *]; (try rfl); done)))
                | (apply x_condF; (focus (simp only [go_sem, *]; (try rfl); done)))
                | (apply x_guardS; (focus rfl); (fail_if_success (focus (show _ = some true; (focus (simp only [go_sem, *]; (try rfl); done))))); (focus (simp only [go_sem, *]; (try rfl); done)); all_goals (intro hb; try simp only [Bool.not_eq_true', Bool.not_eq_false'] at hb))
                | (apply x_condS; (focus (simp only [go_sem, *]; (try rfl); done)); all_goals (intro hb; try simp only [Bool.not_eq_true', Bool.not_eq_false'] at hb))
              apply f_endO (S2 := (S.set b (Blk.cells [.int .i64 k, .int .i64 0, .int .i64 0, .str []])).set a (.cells [.str t, .int .i64 (scP t (skipC r) : Nat), errV q])) (L := [(Blk.cells [.str kw, .sval false [], .bool false, .bool false, .bool true, .int .i64 lo, .int .i64 hi, .int .i64 mx, .bool name])])
              · (simp only [go_sem, *]; try rfl)
              · (simp only [go_sem, *]; try rfl)
              · simp
              · exact out2 hO (errOk_v q) (fun _ => rfl) hab
              · (simp only [go_sem, *, Tryz.results45]; try rfl)
              · (simp only [go_sem, *]; try rfl)
              · (simp only [go_sem, *]; try rfl)
              · exact h q (skipC r) ⟨k, 0, 0, []⟩ hr2
            · rw [decide_eq_false hz] at hsk
              clear hz
              repeat' first
                | apply x_seq | apply x_skip | apply x_block | apply x_exit | apply x_ret | apply x_ops_nil | apply p_blk | apply p_exit_it | apply p_exit_hit | apply p_ret_it | apply p_ret_blk | apply p_panic_it | apply p_panic_blk | apply p_end
                | (apply p_exit_miss; (focus rfl))
                | (apply x_region; simp only [List.toList_toArray])
                | (apply x_step0; (focus rfl); (focus (simp only [go_sem, *]; (try rfl); done)); (focus rfl); simp only [putA])
                | (apply x_callA []; (focus (simp only [go_sem, *]; (try rfl); done)); (focus rfl); (focus (simp only [go_sem, *]; (try rfl); done)); (focus rfl); (iterate 2 (focus (simp only [go_sem, *]; (try rfl); done))); (first | (apply hsk) | (apply hf)); simp only [afterCall, putA])
                | (apply x_panic; (focus (simp only [go_sem, *]; (try rfl); done)); (focus rfl); (focus (simp only [go_sem, *]; (try rfl); done)))
                | (apply x_step; (iterate 2 (focus (simp only [go_sem, *]; (try rfl); done))); (focus rfl); simp only [putA])
                | (apply x_unwanted; (focus (simp only [go_sem, *]; (try rfl); done)); (focus rfl); simp only [putA])
                | (apply x_condT; (focus (simp only [go_sem, *]; (try rfl); done)))
                | (apply x_condF; (focus (simp only [go_sem, *]; (try rfl); done)))
                | (apply x_guardS; (focus rfl); (fail_if_success (focus (show _ = some true; (focus (simp only [go_sem, *]; (try rfl); done))))); (focus (simp only [go_sem, *]; (try rfl); done)); all_goals (intro hb; try simp only [Bool.not_eq_true', Bool.not_eq_false'] at hb))
                | (apply x_condS; (focus (simp only [go_sem, *]; (try rfl); done)); all_goals (intro hb; try simp only [Bool.not_eq_true', Bool.not_eq_false'] at hb))
              intro q2
              repeat' first
                | apply x_seq | apply x_skip | apply x_block | apply x_exit | apply x_ret | apply x_ops_nil | apply p_blk | apply p_exit_it | apply p_exit_hit | apply p_ret_it | apply p_ret_blk | apply p_panic_it | apply p_panic_blk | apply p_end
                | (apply p_exit_miss; (focus rfl))
                | (apply x_region; simp only [List.toList_toArray])
                | (apply x_step0; (focus rfl); (focus (simp only [go_sem, *]; (try rfl); done)); (focus rfl); simp only [putA])
                | (apply x_panic; (focus (simp only [go_sem, *]; (try rfl); done)); (focus rfl); (focus (simp only [go_sem, *]; (try rfl); done)))
                | (apply x_step; (iterate 2 (focus (simp only [go_sem, *]; (try rfl); done))); (focus rfl); simp only [putA])
                | (apply x_unwanted; (focus (simp only [go_sem, *]; (try rfl); done)); (focus rfl); simp only [putA])
                | (apply x_condT; (focus (simp only [go_sem, *]; (try rfl); done)))
                | (apply x_condF; (focus (simp only [go_sem, *]; (try rfl); done)))
                | (apply x_guardS; (focus rfl); (fail_if_success (focus (show _ = some true; (focus (simp only [go_sem, *]; (try rfl); done))))); (focus (simp only [go_sem, *]; (try rfl); done)); all_goals (intro hb; try simp only [Bool.not_eq_true', Bool.not_eq_false'] at hb))
                | (apply x_condS; (focus (simp only [go_sem, *]; (try rfl); done)); all_goals (intro hb; try simp only [Bool.not_eq_true', Bool.not_eq_false'] at hb))
              apply f_endO (S2 := (S.set b (Blk.cells [.int .i64 k, .int .i64 0, .int .i64 0, .str []])).set a (.cells [.str t, .int .i64 (scP t (skipC r) : Nat), errV q2])) (L := [(Blk.cells [.str kw, .sval false [], .bool false, .bool false, .bool true, .int .i64 lo, .int .i64 hi, .int .i64 mx, .bool name])])
              · (simp only [go_sem, *]; try rfl)
              · (simp only [go_sem, *]; try rfl)
              · simp
              · exact out2 hO (errOk_v q2) (fun _ => rfl) hab
              · (simp only [go_sem, *, Tryz.results45]; try rfl)
              · (simp only [go_sem, *]; try rfl)
              · (simp only [go_sem, *]; try rfl)
              · exact h q2 (skipC r) ⟨k, 0, 0, []⟩ hr2
      | false =>
        simp only [Bool.false_eq_true, if_false] at h1 h0
        simp only [cmB]
        have hsk := skipL w0 (S.set b (Blk.cells [.int .i64 k, .int .i64 0, .int .i64 0, .str []])) a t s .inil [(Blk.cells [.str kw, .sval false [], .bool false, .bool false, .bool false, .int .i64 lo, .int .i64 hi, .int .i64 mx, .bool name])] ht hi0 (hal _) hs
        have hr2 := suf_skip hs
        by_cases hz : skipC s = []
        · have h := h1 ⟨k, 0, 0, []⟩ (by rw [if_pos hz])
          simp only [cmB] at h
          rw [decide_eq_true hz, hz] at hsk
          clear h1 h0 hz
          refine enter Tryz.func45 rfl (by decide +kernel) (by rw [Tryz.ntmps45]; simp) (by rw [Tryz.ntmps45]; decide) (fun hO => ?_); rw [Tryz.ntmps45]
          repeat' first
            | apply x_seq | apply x_skip | apply x_block | apply x_exit | apply x_ret | apply x_ops_nil | apply p_blk | apply p_exit_it | apply p_exit_hit | apply p_ret_it | apply p_ret_blk | apply p_panic_it | apply p_panic_blk | apply p_end
            | (apply p_exit_miss; (focus rfl))
            | (apply x_region; simp only [List.toList_toArray])
            | (apply x_step0; (focus rfl); (focus (simp only [go_sem, *]; (try rfl); done)); (focus rfl); simp only [putA])
            | (apply x_callA []; (focus (simp only [go_sem, *]; (try rfl); done)); (focus rfl); (focus (simp only [go_sem, *]; (try rfl); done)); (focus rfl); (iterate 2 (focus (simp only [go_sem, *]; (try rfl); done))); (first | (apply hsk)); simp only [afterCall, putA])
            | (apply x_panic; (focus (simp only [go_sem, *]; (try rfl); done)); (focus rfl); (focus (simp only [go_sem, *]; (try rfl); done)))
            | (apply x_step; (iterate 2 (focus (simp only [go_sem, *]; (try rfl); done))); (focus rfl); simp only [putA])
            | (apply x_unwanted; (focus (simp only [go_sem, *]; (try rfl); done)); (focus rfl); simp only [putA])
            | (apply x_condT; (focus (simp only [go_sem, *]; (try rfl); done)))
            | (apply x_condF; (focus (simp only [go_sem, *]; (try rfl); done)))
            | (apply x_guardS; (focus rfl); (fail_if_success (focus (show _ = some true; (focus (simp only [go_sem, *]; (try rfl); done))))); (focus (simp only [go_sem, *]; (try rfl); done)); all_goals (intro hb; try simp only [Bool.not_eq_true', Bool.not_eq_false'] at hb))
            | (apply x_condS; (focus (simp only [go_sem, *]; (try rfl); done)); all_goals (intro hb; try simp only [Bool.not_eq_true', Bool.not_eq_false'] at hb))
          apply f_endO (S2 := (S.set b (Blk.cells [.int .i64 k, .int .i64 0, .int .i64 0, .str []])).set a (.cells [.str t, .int .i64 (scP t [] : Nat), .inil])) (L := [(Blk.cells [.str kw, .sval false [], .bool false, .bool false, .bool false, .int .i64 lo, .int .i64 hi, .int .i64 mx, .bool name])])
          · (simp only [go_sem, *]; try rfl)
          · (simp only [go_sem, *]; try rfl)
          · simp
          · exact out2 hO hi0 (fun _ => rfl) hab
          · (simp only [go_sem, *, Tryz.results45]; try rfl)
          · (simp only [go_sem, *]; try rfl)
          · (simp only [go_sem, *]; try rfl)
          · exact h
        · have h := h0 (by rw [if_neg hz])
          have hf := fail' w0 (S.set b (Blk.cells [.int .i64 k, .int .i64 0, .int .i64 0, .str []])) a t (scP t (skipC s) : Nat) .inil hi0 (hal _) [(Blk.cells [.str kw, .sval false [], .bool false, .bool false, .bool false, .int .i64 lo, .int .i64 hi, .int .i64 mx, .bool name])]
          simp only [cmB] at h
          rw [decide_eq_false hz] at hsk
          clear h1 h0 hz
          refine enter Tryz.func45 rfl (by decide +kernel) (by rw [Tryz.ntmps45]; simp) (by rw [Tryz.ntmps45]; decide) (fun hO => ?_); rw [Tryz.ntmps45]
          repeat' first
            | apply x_seq | apply x_skip | apply x_block | apply x_exit | apply x_ret | apply x_ops_nil | apply p_blk | apply p_exit_it | apply p_exit_hit | apply p_ret_it | apply p_ret_blk | apply p_panic_it | apply p_panic_blk | apply p_end
            | (apply p_exit_miss; (focus rfl))
            | (apply x_region; simp only [List.toList_toArray])
            | (apply x_step0; (focus rfl); (focus (simp only [go_sem, *]; (try rfl); done)); (focus rfl); simp only [putA])
            | (apply x_callA []; (focus (simp only [go_sem, *]; (try rfl); done)); (focus rfl); (focus (simp only [go_sem, *]; (try rfl); done)); (focus rfl); (iterate 2 (focus (simp only [go_sem, *]; (try rfl); done))); (first | (apply hsk) | (apply hf)); simp only [afterCall, putA])
            | (apply x_panic; (focus (simp only [go_sem, *]; (try rfl); done)); (focus rfl); (focus (simp only [go_sem, *]; (try rfl); done)))
            | (apply x_step; (iterate 2 (focus (simp only [go_sem, *]; (try rfl); done))); (focus rfl); simp only [putA])
            | (apply x_unwanted; (focus (simp only [go_sem, *]; (try rfl); done)); (focus rfl); simp only [putA])
            | (apply x_condT; (focus (simp only [go_sem, *]; (try rfl); done)))
            | (apply x_condF; (focus (simp only [go_sem, *]; (try rfl); done)))
            | (apply x_guardS; (focus rfl); (fail_if_success (focus (show _ = some true; (focus (simp only [go_sem, *]; (try rfl); done))))); (focus (simp only [go_sem, *]; (try rfl); done)); all_goals (intro hb; try simp only [Bool.not_eq_true', Bool.not_eq_false'] at hb))
            | (apply x_condS; (focus (simp only [go_sem, *]; (try rfl); done)); all_goals (intro hb; try simp only [Bool.not_eq_true', Bool.not_eq_false'] at hb))
          intro q
          repeat' first
            | apply x_seq | apply x_skip | apply x_block | apply x_exit | apply x_ret | apply x_ops_nil | apply p_blk | apply p_exit_it | apply p_exit_hit | apply p_ret_it | apply p_ret_blk | apply p_panic_it | apply p_panic_blk | apply p_end
            | (apply p_exit_miss; (focus rfl))
            | (apply x_region; simp only [List.toList_toArray])
            | (apply x_step0; (focus rfl); (focus (simp only [go_sem, *]; (try rfl); done)); (focus rfl); simp only [putA])
            | (apply x_panic; (focus (simp only [go_sem, *]; (try rfl); done)); (focus rfl); (focus (simp only [go_sem, *]; (try rfl); done)))
            | (apply x_step; (iterate 2 (focus (simp only [go_sem, *]; (try rfl); done))); (focus rfl); simp only [putA])
            | (apply x_unwanted; (focus (simp only [go_sem, *]; (try rfl); done)); (focus rfl); simp only [putA])
            | (apply x_condT; (focus (simp only [go_sem, *]; (try rfl); done)))
            | (apply x_condF; (focus (simp only [go_sem, *]; (try rfl); done)))
            | (apply x_guardS; (focus rfl); (fail_if_success (focus (show _ = some true; (focus (simp only [go_sem, *]; (try rfl); done))))); (focus (simp only [go_sem, *]; (try rfl); done)); all_goals (intro hb; try simp only [Bool.not_eq_true', Bool.not_eq_false'] at hb))
            | (apply x_condS; (focus (simp only [go_sem, *]; (try rfl); done)); all_goals (intro hb; try simp only [Bool.not_eq_true', Bool.not_eq_false'] at hb))
          apply f_endO (S2 := (S.set b (Blk.cells [.int .i64 k, .int .i64 0, .int .i64 0, .str []])).set a (.cells [.str t, .int .i64 (scP t (skipC s) : Nat), errV q])) (L := [(Blk.cells [.str kw, .sval false [], .bool false, .bool false, .bool false, .int .i64 lo, .int .i64 hi, .int .i64 mx, .bool name])])
          · (simp only [go_sem, *]; try rfl)
          · (simp only [go_sem, *]; try rfl)
          · simp
          · exact out2 hO (errOk_v q) (fun _ => rfl) hab
          · (simp only [go_sem, *, Tryz.results45]; try rfl)
          · (simp only [go_sem, *]; try rfl)
          · (simp only [go_sem, *]; try rfl)
          · exact h q (skipC s) ⟨k, 0, 0, []⟩ hr2
end Go.Proofs.YtcobfilbmfokoaaGreatDoor
namespace Go.Proofs.YtcobfilbmfokoaaGreatDoor
open Go Go.Fen
set_option linter.unusedSimpArgs false
set_option linter.unusedVariables false
attribute [local irreducible] RunX WP ACall AnyP OpA ProtL
set_option maxRecDepth 8000
theorem idx_some {l : List (List UInt8)} {w : List UInt8} {i : Nat} (h : idxC l w = some i) : l[i]? = some w := by
  unfold idxC at h
  rw [List.findIdx?_eq_some_iff_getElem] at h
  obtain ⟨h1, h2, _⟩ := h
  rw [List.getElem?_eq_getElem h1, eq_of_beq h2]
theorem idx_none {l : List (List UInt8)} {w : List UInt8} (h : idxC l w = none) : ∀ j : Nat, l[j]? ≠ some w := by
  intro j hj
  unfold idxC at h
  rw [List.findIdx?_eq_none_iff] at h
  have := h w (List.mem_of_getElem? hj)
  simp at this
set_option maxHeartbeats 16000000 in
theorem cArgs1 (w0 : World) (S : List Blk) (a b : Nat) (hab : a ≠ b) (ha : a < S.length) (hb : b < S.length) (t s : List UInt8) (ht : t.length ≤ 10000000) (hs : s <:+ t) (k : Int) (f : Fm) (hw : f.words ≠ []) (hwl : f.words.length ≤ 100)
    (hdi : ∀ i w, f.words[i]? = some w → idxC f.words w = some i) (hix : f.index = false) (htx : f.text = false) (R : AOut → List Blk → Prop)
    (h1 : ∀ c, argsC k f s = some c → R (.ret (.tup [])) ((S.set b (cmB c)).set a (.cells [.str t, .int .i64 (scP t [] : Nat), .inil])))
    (h0 : argsC k f s = none → ∀ q r c, r <:+ t → R (.ret (.tup [])) ((S.set b (cmB c)).set a (.cells [.str t, .int .i64 (scP t r : Nat), errV q]))) :
    ACall Tryz.prog w0 45 [.own a 0, f.av, .own b 0] ((S.set b (cmB ⟨k, 0, 0, []⟩)).set a (.cells [.str t, .int .i64 (scP t s : Nat), .inil])) R := by
  obtain ⟨kw, words, number, index, text, lo, hi, mx, name⟩ := f
  simp only at hw hwl hdi hix htx
  subst hix htx
  have hi0 : ErrOk .inil := .inl rfl
  have hga := fun C X L => get2a (S := S) (L := L) (b := b) ha C X
  have hgb := fun C X L => get2b (S := S) (L := L) hab hb C X
  have hsb := fun C X C' L => set2 (S := S) (L := L) hab hb C X C'
  have hga0 : ∀ C X, ((S.set b C).set a X)[a]? = some X := fun C X => by simpa using hga C X []
  have hgb0 : ∀ C X, ((S.set b C).set a X)[b]? = some C := fun C X => by simpa using hgb C X []
  have hgn : ∀ C X F, ((S.set b C).set a X ++ [F])[S.length]? = some F := fun C X F => by
    rw [List.getElem?_append_right (by simp)]; simp
  have hal : ∀ C, a < (S.set b C).length := fun C => by simpa using ha
  have hr1 := (suf_word hs).1
  have hwc1 : ∀ i0, idxC words (wordC s).1 = some i0 → wordsC ⟨kw, words, number, false, false, lo, hi, mx, name⟩ s = some ((i0 : Int), (wordC s).2) := fun i0 h => by
    unfold wordsC
    simp only
    rw [if_neg hw, h]
    rfl
  have hwc0 : idxC words (wordC s).1 = none → wordsC ⟨kw, words, number, false, false, lo, hi, mx, name⟩ s = none := fun h => by
    unfold wordsC
    simp only
    rw [if_neg hw, h]
    rfl
  unfold argsC at h1 h0
  simp only [Bool.false_eq_true, if_false] at h1 h0
  have hl0 : decide ((0 : Int) < (words.length : Int)) = true := by
    cases words with
    | nil => exact absurd rfl hw
    | cons x l => simp
  have okW := Str.ok words
  simp only [okEls, AV.cells] at okW
  unfold Fm.av
  simp only [cmB]
  have hwo := wordL w0 (S.set b (Blk.cells [.int .i64 k, .int .i64 0, .int .i64 0, .str []])) a t s .inil [(Blk.cells [.str kw, .sval false (words.map AV.str), .bool number, .bool false, .bool false, .int .i64 lo, .int .i64 hi, .int .i64 mx, .bool name])] ht hi0 (hal _) hs
  obtain ⟨W, hW⟩ : ∃ W, (wordC s).1 = W := ⟨_, rfl⟩
  rw [hW] at hwo hwc1 hwc0
  have H1 := Lib.hid h1
  have H0 := Lib.hid h0
  have Hwc1 := Lib.hid hwc1
  have Hwc0 := Lib.hid hwc0
  clear h1 h0 hwc1 hwc0 hw hW
  refine enter Tryz.func45 rfl (by decide +kernel) (by rw [Tryz.ntmps45]; simp) (by rw [Tryz.ntmps45]; decide) (fun hO => ?_); rw [Tryz.ntmps45]
  repeat' first
    | apply x_seq | apply x_skip | apply x_block | apply x_exit | apply x_ret | apply x_ops_nil | apply p_blk | apply p_exit_it | apply p_exit_hit | apply p_ret_it | apply p_ret_blk | apply p_panic_it | apply p_panic_blk | apply p_end
    | (apply p_exit_miss; (focus rfl))
    | (apply x_region; simp only [List.toList_toArray])
    | (apply x_step0; (focus rfl); (focus (simp only [go_sem, *]; (try rfl); done)); (focus rfl); simp only [putA])
    | (apply x_callA []; (focus (simp only [go_sem, *]; (try rfl); done)); (focus rfl); (focus (simp only [go_sem, *]; (try rfl); done)); (focus rfl); (iterate 2 (focus (simp only [go_sem, *]; (try rfl); done))); (first | (apply hwo)); simp only [afterCall, putA])
    | (apply x_panic; (focus (simp only [go_sem, *]; (try rfl); done)); (focus rfl); (focus (simp only [go_sem, *]; (try rfl); done)))
    | (apply x_step; (iterate 2 (focus (simp only [go_sem, *]; (try rfl); done))); (focus rfl); simp only [putA])
    | (apply x_unwanted; (focus (simp only [go_sem, *]; (try rfl); done)); (focus rfl); simp only [putA])
    | (apply x_condT; (focus (simp only [go_sem, *]; (try rfl); done)))
    | (apply x_condF; (focus (simp only [go_sem, *]; (try rfl); done)))
    | (apply x_guardS; (focus rfl); (fail_if_success (focus (show _ = some true; (focus (simp only [go_sem, *]; (try rfl); done))))); (focus (simp only [go_sem, *]; (try rfl); done)); all_goals (intro hb; try simp only [Bool.not_eq_true', Bool.not_eq_false'] at hb))
    | (apply x_condS; (focus (simp only [go_sem, *]; (try rfl); done)); all_goals (intro hb; try simp only [Bool.not_eq_true', Bool.not_eq_false'] at hb))
  refine x_ind (fun (p : Nat × Int) env S' => p.1 ≤ words.length ∧ (∀ j, j < p.1 → words[j]? = some W → p.2 = j) ∧ ((∀ j, j < p.1 → words[j]? ≠ some W) → p.2 = -1) ∧ env 1000000 = .dfr [] ∧ env 0 = .own a 0 ∧ env 2 = .own b 0 ∧ env 4 = .own S.length 0 ∧ env 6 = .fn (.func 63) [.own a 0] [] ∧ env 7 = .str W ∧ env 22 = .sval false (words.map AV.str) ∧ env 23 = .int .i64 words.length ∧ env 24 = .int .i64 (p.1 : Int) ∧
    S' = (S.set b (Blk.cells [.int .i64 k, .int .i64 p.2, .int .i64 0, .str []])).set a (.cells [.str t, .int .i64 (scP t (wordC s).2 : Nat), .inil]) ++ [(Blk.cells [.str kw, .sval false (words.map AV.str), .bool number, .bool false, .bool false, .int .i64 lo, .int .i64 hi, .int .i64 mx, .bool name])]) (fun p => words.length - p.1) (0, -1) ?_ ?_
  · exact ⟨Nat.zero_le _, fun j hj => absurd hj (by omega), fun _ => rfl, by (simp only [go_sem, *]; try rfl), by (simp only [go_sem, *]; try rfl), by (simp only [go_sem, *]; try rfl), by (simp only [go_sem, *]; try rfl), by (simp only [go_sem, *]; try rfl), by (simp only [go_sem, *]; try rfl), by (simp only [go_sem, *]; try rfl), by (simp only [go_sem, *]; try rfl), by (simp only [go_sem, *]; try rfl), rfl⟩
  · rintro ⟨i, N⟩ env S' ⟨hi, hN1, hN2, e0, f0, f2, f4, f6, f7, f22, f23, f24, rfl⟩ IH
    have HI := Lib.hid IH
    have HN1 := Lib.hid hN1
    have HN2 := Lib.hid hN2
    have Hdi := Lib.hid hdi
    clear IH hN1 hN2 hdi
    simp only at hi f24
    by_cases hlt : i < words.length
    · obtain ⟨x, hx⟩ : ∃ x, words[i]? = some x := ⟨_, List.getElem?_eq_getElem hlt⟩
      have d1 : decide ((i : Int) < (words.length : Int)) = true := by simpa using hlt
      have hwi : IntKind.i64.wrap ((i : Int) + 1) = (i : Int) + 1 := IntWalk.i64_in _ (by omega)
      have Hlt := Lib.hid hlt
      clear hlt hi hwl
      by_cases hxw : x = W
      · subst hxw
        have dx : (x == x) = true := by simp
        have Hx := Lib.hid hx
        repeat' first
          | apply x_seq | apply x_skip | apply x_block | apply x_exit | apply x_ret | apply x_ops_nil | apply p_blk | apply p_exit_it | apply p_exit_hit | apply p_ret_it | apply p_ret_blk | apply p_panic_it | apply p_panic_blk | apply p_end
          | (apply p_exit_miss; (focus rfl))
          | (apply x_region; simp only [List.toList_toArray])
          | (apply x_step0; (focus rfl); (focus (simp only [go_sem, *]; (try rfl); done)); (focus rfl); simp only [putA])
          | (apply x_panic; (focus (simp only [go_sem, *]; (try rfl); done)); (focus rfl); (focus (simp only [go_sem, *]; (try rfl); done)))
          | (apply x_step; (iterate 2 (focus (simp only [go_sem, *]; (try rfl); done))); (focus rfl); simp only [putA])
          | (apply x_unwanted; (focus (simp only [go_sem, *]; (try rfl); done)); (focus rfl); simp only [putA])
          | (apply x_condT; (focus (simp only [go_sem, *]; (try rfl); done)))
          | (apply x_condF; (focus (simp only [go_sem, *]; (try rfl); done)))
          | (apply x_guardS; (focus rfl); (fail_if_success (focus (show _ = some true; (focus (simp only [go_sem, *]; (try rfl); done))))); (focus (simp only [go_sem, *]; (try rfl); done)); all_goals (intro hb; try simp only [Bool.not_eq_true', Bool.not_eq_false'] at hb))
          | (apply x_condS; (focus (simp only [go_sem, *]; (try rfl); done)); all_goals (intro hb; try simp only [Bool.not_eq_true', Bool.not_eq_false'] at hb))
        refine HI.out (i + 1, (i : Int)) _ _ (by have := Hlt.out; simp only; omega) ⟨Hlt.out, ?_, ?_, ?_, ?_, ?_, ?_, ?_, ?_, ?_, ?_, ?_, rfl⟩
        · intro j hj hjx
          have e1 := Hdi.out j x hjx
          rw [Hdi.out i x Hx.out] at e1
          simp only [Option.some.injEq] at e1
          first | omega | (simp only; omega)
        · intro hall
          exact absurd Hx.out (hall i (by first | omega | (simp only; omega)))
        all_goals (simp only [go_sem, *]; try rfl)
      · have dx : (x == W) = false := by simpa using hxw
        have Hx := Lib.hid hx
        have Hxw := Lib.hid hxw
        clear hxw
        repeat' first
          | apply x_seq | apply x_skip | apply x_block | apply x_exit | apply x_ret | apply x_ops_nil | apply p_blk | apply p_exit_it | apply p_exit_hit | apply p_ret_it | apply p_ret_blk | apply p_panic_it | apply p_panic_blk | apply p_end
          | (apply p_exit_miss; (focus rfl))
          | (apply x_region; simp only [List.toList_toArray])
          | (apply x_step0; (focus rfl); (focus (simp only [go_sem, *]; (try rfl); done)); (focus rfl); simp only [putA])
          | (apply x_panic; (focus (simp only [go_sem, *]; (try rfl); done)); (focus rfl); (focus (simp only [go_sem, *]; (try rfl); done)))
          | (apply x_step; (iterate 2 (focus (simp only [go_sem, *]; (try rfl); done))); (focus rfl); simp only [putA])
          | (apply x_unwanted; (focus (simp only [go_sem, *]; (try rfl); done)); (focus rfl); simp only [putA])
          | (apply x_condT; (focus (simp only [go_sem, *]; (try rfl); done)))
          | (apply x_condF; (focus (simp only [go_sem, *]; (try rfl); done)))
          | (apply x_guardS; (focus rfl); (fail_if_success (focus (show _ = some true; (focus (simp only [go_sem, *]; (try rfl); done))))); (focus (simp only [go_sem, *]; (try rfl); done)); all_goals (intro hb; try simp only [Bool.not_eq_true', Bool.not_eq_false'] at hb))
          | (apply x_condS; (focus (simp only [go_sem, *]; (try rfl); done)); all_goals (intro hb; try simp only [Bool.not_eq_true', Bool.not_eq_false'] at hb))
        refine HI.out (i + 1, N) _ _ (by have := Hlt.out; simp only; omega) ⟨Hlt.out, ?_, ?_, ?_, ?_, ?_, ?_, ?_, ?_, ?_, ?_, ?_, rfl⟩
        · intro j hj hjx
          by_cases e : j = i
          · subst e
            rw [Hx.out] at hjx
            cases hjx
            exact absurd rfl Hxw.out
          · exact HN1.out j (by first | omega | (simp only at hj ⊢; omega)) hjx
        · intro hall
          exact HN2.out fun j hj => hall j (by first | omega | (simp only at hj ⊢; omega))
        all_goals (simp only [go_sem, *]; try rfl)
    · have d1 : decide ((i : Int) < (words.length : Int)) = false := by simpa using hlt
      have hie : i = words.length := by omega
      cases hid : idxC words W with
      | some i0 =>
        have hi0' := idx_some hid
        have hNe : N = i0 := HN1.out i0 (by have := (List.getElem?_eq_some_iff.1 hi0').1; first | omega | (simp only; omega)) hi0'
        subst hNe
        have d2 : decide ((i0 : Int) < 0) = false := by simp
        have hwc := Hwc1.out i0 hid
        simp only [hwc] at H1 H0
        clear hwc
        clear hi0' hid hie hlt hi HI HN1 HN2 Hdi hwl hwo
        cases number with
        | true =>
          simp only [if_true] at H1 H0
          have hnu := fun (R : AOut → List Blk → Prop) => numL w0 (S.set b (Blk.cells [.int .i64 k, .int .i64 i0, .int .i64 0, .str []])) a t (wordC s).2 .inil [(Blk.cells [.str kw, .sval false (words.map AV.str), .bool true, .bool false, .bool false, .int .i64 lo, .int .i64 hi, .int .i64 mx, .bool name])] ht hi0 (hal _) hr1 R
          have hr3 := (suf_word hr1).1
          cases hn : numC (wordC (wordC s).2).1 with
          | some n =>
            have hnu := fun (R : AOut → List Blk → Prop) hh => hnu R (fun n' hn' => by rw [hn] at hn'; cases hn'; exact hh) (fun hn' => by rw [hn] at hn'; cases hn')
            have hsk := skipL w0 (S.set b (Blk.cells [.int .i64 k, .int .i64 i0, .int .i64 n, .str []])) a t (wordC (wordC s).2).2 .inil [(Blk.cells [.str kw, .sval false (words.map AV.str), .bool true, .bool false, .bool false, .int .i64 lo, .int .i64 hi, .int .i64 mx, .bool name])] ht hi0 (hal _) hr3
            have hr2 := suf_skip hr3
            by_cases hz : skipC (wordC (wordC s).2).2 = []
            · have h := H1.out ⟨k, i0, n, []⟩ (by simp only [hn, Option.map_some]; rw [if_pos hz])
              simp only [cmB] at h
              rw [decide_eq_true hz, hz] at hsk
              clear hz
              repeat' first
                | apply x_seq | apply x_skip | apply x_block | apply x_exit | apply x_ret | apply x_ops_nil | apply p_blk | apply p_exit_it | apply p_exit_hit | apply p_ret_it | apply p_ret_blk | apply p_panic_it | apply p_panic_blk | apply p_end
                | (apply p_exit_miss; (focus rfl))
                | (apply x_region; simp only [List.toList_toArray])
                | (apply x_step0; (focus rfl); (focus (simp only [go_sem, *]; (try rfl); done)); (focus rfl); simp only [putA])
                | (apply x_callA []; (focus (simp only [go_sem, *]; (try rfl); done)); (focus rfl); (focus (simp only [go_sem, *]; (try rfl); done)); (focus rfl); (iterate 2 (focus (simp only [go_sem, *]; (try rfl); done))); (first | (apply hnu) | (apply hsk)); simp only [afterCall, putA])
                | (apply x_panic; (focus (simp only [go_sem, *]; (try rfl); done)); (focus rfl); (focus (simp only [go_sem, *]; (try rfl); done)))
                | (apply x_step; (iterate 2 (focus (simp only [go_sem, *]; (try rfl); done))); (focus rfl); simp only [putA])
                | (apply x_unwanted; (focus (simp only [go_sem, *]; (try rfl); done)); (focus rfl); simp only [putA])
                | (apply x_condT; (focus (simp only [go_sem, *]; (try rfl); done)))
                | (apply x_condF; (focus (simp only [go_sem, *]; (try rfl); done)))
                | (apply x_guardS; (focus rfl); (fail_if_success (focus (show _ = some true; (focus (simp only [go_sem, *]; (try rfl); done))))); (focus (simp only [go_sem, *]; (try rfl); done)); all_goals (intro hb; try simp only [Bool.not_eq_true', Bool.not_eq_false'] at hb))
                | (apply x_condS; (focus (simp only [go_sem, *]; (try rfl); done)); all_goals (intro hb; try simp only [Bool.not_eq_true', Bool.not_eq_false'] at hb))
              apply f_endO (S2 := (S.set b (Blk.cells [.int .i64 k, .int .i64 i0, .int .i64 n, .str []])).set a (.cells [.str t, .int .i64 (scP t [] : Nat), .inil])) (L := [(Blk.cells [.str kw, .sval false (words.map AV.str), .bool true, .bool false, .bool false, .int .i64 lo, .int .i64 hi, .int .i64 mx, .bool name])])
              · (simp only [go_sem, *]; try rfl)
              · (simp only [go_sem, *]; try rfl)
              · simp
              · exact out2 hO hi0 (fun _ => rfl) hab
              · (simp only [go_sem, *, Tryz.results45]; try rfl)
              · (simp only [go_sem, *]; try rfl)
              · (simp only [go_sem, *]; try rfl)
              · exact h
            · have h := H0.out (by simp only [hn, Option.map_some]; rw [if_neg hz])
              have hf := fail' w0 (S.set b (Blk.cells [.int .i64 k, .int .i64 i0, .int .i64 n, .str []])) a t (scP t (skipC (wordC (wordC s).2).2) : Nat) .inil hi0 (hal _) [(Blk.cells [.str kw, .sval false (words.map AV.str), .bool true, .bool false, .bool false, .int .i64 lo, .int .i64 hi, .int .i64 mx, .bool name])]
              simp only [cmB] at h
              rw [decide_eq_false hz] at hsk
              clear hz
              repeat' first
                | apply x_seq | apply x_skip | apply x_block | apply x_exit | apply x_ret | apply x_ops_nil | apply p_blk | apply p_exit_it | apply p_exit_hit | apply p_ret_it | apply p_ret_blk | apply p_panic_it | apply p_panic_blk | apply p_end
                | (apply p_exit_miss; (focus rfl))
                | (apply x_region; simp only [List.toList_toArray])
                | (apply x_step0; (focus rfl); (focus (simp only [go_sem, *]; (try rfl); done)); (focus rfl); simp only [putA])
                | (apply x_callA []; (focus (simp only [go_sem, *]; (try rfl); done)); (focus rfl); (focus (simp only [go_sem, *]; (try rfl); done)); (focus rfl); (iterate 2 (focus (simp only [go_sem, *]; (try rfl); done))); (first | (apply hnu) | (apply hsk) | (apply hf)); simp only [afterCall, putA])
                | (apply x_panic; (focus (simp only [go_sem, *]; (try rfl); done)); (focus rfl); (focus (simp only [go_sem, *]; (try rfl); done)))
                | (apply x_step; (iterate 2 (focus (simp only [go_sem, *]; (try rfl); done))); (focus rfl); simp only [putA])
                | (apply x_unwanted; (focus (simp only [go_sem, *]; (try rfl); done)); (focus rfl); simp only [putA])
                | (apply x_condT; (focus (simp only [go_sem, *]; (try rfl); done)))
                | (apply x_condF; (focus (simp only [go_sem, *]; (try rfl); done)))
                | (apply x_guardS; (focus rfl); (fail_if_success (focus (show _ = some true; (focus (simp only [go_sem, *]; (try rfl); done))))); (focus (simp only [go_sem, *]; (try rfl); done)); all_goals (intro hb; try simp only [Bool.not_eq_true', Bool.not_eq_false'] at hb))
                | (apply x_condS; (focus (simp only [go_sem, *]; (try rfl); done)); all_goals (intro hb; try simp only [Bool.not_eq_true', Bool.not_eq_false'] at hb))
              intro q
              repeat' first
                | apply x_seq | apply x_skip | apply x_block | apply x_exit | apply x_ret | apply x_ops_nil | apply p_blk | apply p_exit_it | apply p_exit_hit | apply p_ret_it | apply p_ret_blk | apply p_panic_it | apply p_panic_blk | apply p_end
                | (apply p_exit_miss; (focus rfl))
                | (apply x_region; simp only [List.toList_toArray])
                | (apply x_step0; (focus rfl); (focus (simp only [go_sem, *]; (try rfl); done)); (focus rfl); simp only [putA])
                | (apply x_panic; (focus (simp only [go_sem, *]; (try rfl); done)); (focus rfl); (focus (simp only [go_sem, *]; (try rfl); done)))
                | (apply x_step; (iterate 2 (focus (simp only [go_sem, *]; (try rfl); done))); (focus rfl); simp only [putA])
                | (apply x_unwanted; (focus (simp only [go_sem, *]; (try rfl); done)); (focus rfl); simp only [putA])
                | (apply x_condT; (focus (simp only [go_sem, *]; (try rfl); done)))
                | (apply x_condF; (focus (simp only [go_sem, *]; (try rfl); done)))
                | (apply x_guardS; (focus rfl); (fail_if_success (focus (show _ = some true; (focus (simp only [go_sem, *]; (try rfl); done))))); (focus (simp only [go_sem, *]; (try rfl); done)); all_goals (intro hb; try simp only [Bool.not_eq_true', Bool.not_eq_false'] at hb))
                | (apply x_condS; (focus (simp only [go_sem, *]; (try rfl); done)); all_goals (intro hb; try simp only [Bool.not_eq_true', Bool.not_eq_false'] at hb))
              apply f_endO (S2 := (S.set b (Blk.cells [.int .i64 k, .int .i64 i0, .int .i64 n, .str []])).set a (.cells [.str t, .int .i64 (scP t (skipC (wordC (wordC s).2).2) : Nat), errV q])) (L := [(Blk.cells [.str kw, .sval false (words.map AV.str), .bool true, .bool false, .bool false, .int .i64 lo, .int .i64 hi, .int .i64 mx, .bool name])])
              · (simp only [go_sem, *]; try rfl)
              · (simp only [go_sem, *]; try rfl)
              · simp
              · exact out2 hO (errOk_v q) (fun _ => rfl) hab
              · (simp only [go_sem, *, Tryz.results45]; try rfl)
              · (simp only [go_sem, *]; try rfl)
              · (simp only [go_sem, *]; try rfl)
              · exact h q (skipC (wordC (wordC s).2).2) ⟨k, i0, n, []⟩ hr2
          | none =>
            have hnu := fun (R : AOut → List Blk → Prop) hh => hnu R (fun n' hn' => by rw [hn] at hn'; cases hn') (fun _ => hh)
            have h := H0.out (by simp only [hn, Option.map_none])
            simp only [cmB] at h
            repeat' first
              | apply x_seq | apply x_skip | apply x_block | apply x_exit | apply x_ret | apply x_ops_nil | apply p_blk | apply p_exit_it | apply p_exit_hit | apply p_ret_it | apply p_ret_blk | apply p_panic_it | apply p_panic_blk | apply p_end
              | (apply p_exit_miss; (focus rfl))
              | (apply x_region; simp only [List.toList_toArray])
              | (apply x_step0; (focus rfl); (focus (simp only [go_sem, *]; (try rfl); done)); (focus rfl); simp only [putA])
              | (apply x_callA []; (focus (simp only [go_sem, *]; (try rfl); done)); (focus rfl); (focus (simp only [go_sem, *]; (try rfl); done)); (focus rfl); (iterate 2 (focus (simp only [go_sem, *]; (try rfl); done))); (first | (apply hnu)); simp only [afterCall, putA])
              | (apply x_panic; (focus (simp only [go_sem, *]; (try rfl); done)); (focus rfl); (focus (simp only [go_sem, *]; (try rfl); done)))
              | (apply x_step; (iterate 2 (focus (simp only [go_sem, *]; (try rfl); done))); (focus rfl); simp only [putA])
              | (apply x_unwanted; (focus (simp only [go_sem, *]; (try rfl); done)); (focus rfl); simp only [putA])
              | (apply x_condT; (focus (simp only [go_sem, *]; (try rfl); done)))
              | (apply x_condF; (focus (simp only [go_sem, *]; (try rfl); done)))
              | (apply x_guardS; (focus rfl); (fail_if_success (focus (show _ = some true; (focus (simp only [go_sem, *]; (try rfl); done))))); (focus (simp only [go_sem, *]; (try rfl); done)); all_goals (intro hb; try simp only [Bool.not_eq_true', Bool.not_eq_false'] at hb))
              | (apply x_condS; (focus (simp only [go_sem, *]; (try rfl); done)); all_goals (intro hb; try simp only [Bool.not_eq_true', Bool.not_eq_false'] at hb))
            intro q
            have hr2 := suf_skip hr3
            have hsk := skipL w0 (S.set b (Blk.cells [.int .i64 k, .int .i64 i0, .int .i64 0, .str []])) a t (wordC (wordC s).2).2 (errV q) [(Blk.cells [.str kw, .sval false (words.map AV.str), .bool true, .bool false, .bool false, .int .i64 lo, .int .i64 hi, .int .i64 mx, .bool name])] ht (errOk_v _) (hal _) hr3
            have hf := fail' w0 (S.set b (Blk.cells [.int .i64 k, .int .i64 i0, .int .i64 0, .str []])) a t (scP t (skipC (wordC (wordC s).2).2) : Nat) (errV q) (errOk_v _) (hal _) [(Blk.cells [.str kw, .sval false (words.map AV.str), .bool true, .bool false, .bool false, .int .i64 lo, .int .i64 hi, .int .i64 mx, .bool name])]
            by_cases hz : skipC (wordC (wordC s).2).2 = []
            · rw [decide_eq_true hz] at hsk
              clear hz
              repeat' first
                | apply x_seq | apply x_skip | apply x_block | apply x_exit | apply x_ret | apply x_ops_nil | apply p_blk | apply p_exit_it | apply p_exit_hit | apply p_ret_it | apply p_ret_blk | apply p_panic_it | apply p_panic_blk | apply p_end
                | (apply p_exit_miss; (focus rfl))
                | (apply x_region; simp only [List.toList_toArray])
                | (apply x_step0; (focus rfl); (focus (simp only [go_sem, *]; (try rfl); done)); (focus rfl); simp only [putA])
                | (apply x_callA []; (focus (simp only [go_sem, *]; (try rfl); done)); (focus rfl); (focus (simp only [go_sem, *]; (try rfl); done)); (focus rfl); (iterate 2 (focus (simp only [go_sem, *]; (try rfl); done))); (first | (apply hsk)); simp only [afterCall, putA])
                | (apply x_panic; (focus (simp only [go_sem, *]; (try rfl); done)); (focus rfl); (focus (simp only [go_sem, *]; (try rfl); done)))
                | (apply x_step; (iterate 2 (focus (simp only [go_sem, *]; (try rfl); done))); (focus rfl); simp only [putA])
                | (apply x_unwanted; (focus (simp only [go_sem, *]; (try rfl); done)); (focus rfl); simp only [putA])
                | (apply x_condT; (focus (simp only [go_sem, *]; (try rfl); done)))
                | (apply x_condF; (focus (simp only [go_sem, *]; (try rfl); done)))
                | (apply x_guardS; (focus rfl); (fail_if_success (focus (show _ = some true; (focus (simp only [go_sem, *]; (try rfl); done))))); (focus (simp only [go_sem, *]; (try rfl); done)); all_goals (intro hb; try simp only [Bool.not_eq_true', Bool.not_eq_false'] at hb))
                | (apply x_condS; (focus (simp only [go_sem, *]; (try rfl); done)); all_goals (intro hb; try simp only [Bool.not_eq_true', Bool.not_eq_false'] at hb))
              apply f_endO (S2 := (S.set b (Blk.cells [.int .i64 k, .int .i64 i0, .int .i64 0, .str []])).set a (.cells [.str t, .int .i64 (scP t (skipC (wordC (wordC s).2).2) : Nat), errV q])) (L := [(Blk.cells [.str kw, .sval false (words.map AV.str), .bool true, .bool false, .bool false, .int .i64 lo, .int .i64 hi, .int .i64 mx, .bool name])])
              · (simp only [go_sem, *]; try rfl)
              · (simp only [go_sem, *]; try rfl)
              · simp
              · exact out2 hO (errOk_v _) (fun _ => rfl) hab
              · (simp only [go_sem, *, Tryz.results45]; try rfl)
              · (simp only [go_sem, *]; try rfl)
              · (simp only [go_sem, *]; try rfl)
              · exact h _ (skipC (wordC (wordC s).2).2) ⟨k, i0, 0, []⟩ hr2
            · rw [decide_eq_false hz] at hsk
              clear hz
              repeat' first
                | apply x_seq | apply x_skip | apply x_block | apply x_exit | apply x_ret | apply x_ops_nil | apply p_blk | apply p_exit_it | apply p_exit_hit | apply p_ret_it | apply p_ret_blk | apply p_panic_it | apply p_panic_blk | apply p_end
                | (apply p_exit_miss; (focus rfl))
                | (apply x_region; simp only [List.toList_toArray])
                | (apply x_step0; (focus rfl); (focus (simp only [go_sem, *]; (try rfl); done)); (focus rfl); simp only [putA])
                | (apply x_callA []; (focus (simp only [go_sem, *]; (try rfl); done)); (focus rfl); (focus (simp only [go_sem, *]; (try rfl); done)); (focus rfl); (iterate 2 (focus (simp only [go_sem, *]; (try rfl); done))); (first | (apply hsk) | (apply hf)); simp only [afterCall, putA])
                | (apply x_panic; (focus (simp only [go_sem, *]; (try rfl); done)); (focus rfl); (focus (simp only [go_sem, *]; (try rfl); done)))
                | (apply x_step; (iterate 2 (focus (simp only [go_sem, *]; (try rfl); done))); (focus rfl); simp only [putA])
                | (apply x_unwanted; (focus (simp only [go_sem, *]; (try rfl); done)); (focus rfl); simp only [putA])
                | (apply x_condT; (focus (simp only [go_sem, *]; (try rfl); done)))
                | (apply x_condF; (focus (simp only [go_sem, *]; (try rfl); done)))
                | (apply x_guardS; (focus rfl); (fail_if_success (focus (show _ = some true; (focus (simp only [go_sem, *]; (try rfl); done))))); (focus (simp only [go_sem, *]; (try rfl); done)); all_goals (intro hb; try simp only [Bool.not_eq_true', Bool.not_eq_false'] at hb))
                | (apply x_condS; (focus (simp only [go_sem, *]; (try rfl); done)); all_goals (intro hb; try simp only [Bool.not_eq_true', Bool.not_eq_false'] at hb))
              intro q2
              repeat' first
                | apply x_seq | apply x_skip | apply x_block | apply x_exit | apply x_ret | apply x_ops_nil | apply p_blk | apply p_exit_it | apply p_exit_hit | apply p_ret_it | apply p_ret_blk | apply p_panic_it | apply p_panic_blk | apply p_end
                | (apply p_exit_miss; (focus rfl))
                | (apply x_region; simp only [List.toList_toArray])
                | (apply x_step0; (focus rfl); (focus (simp only [go_sem, *]; (try rfl); done)); (focus rfl); simp only [putA])
                | (apply x_panic; (focus (simp only [go_sem, *]; (try rfl); done)); (focus rfl); (focus (simp only [go_sem, *]; (try rfl); done)))
                | (apply x_step; (iterate 2 (focus (simp only [go_sem, *]; (try rfl); done))); (focus rfl); simp only [putA])
                | (apply x_unwanted; (focus (simp only [go_sem, *]; (try rfl); done)); (focus rfl); simp only [putA])
                | (apply x_condT; (focus (simp only [go_sem, *]; (try rfl); done)))
                | (apply x_condF; (focus (simp only [go_sem, *]; (try rfl); done)))
                | (apply x_guardS; (focus rfl); (fail_if_success (focus (show _ = some true; (focus (simp only [go_sem, *]; (try rfl); done))))); (focus (simp only [go_sem, *]; (try rfl); done)); all_goals (intro hb; try simp only [Bool.not_eq_true', Bool.not_eq_false'] at hb))
                | (apply x_condS; (focus (simp only [go_sem, *]; (try rfl); done)); all_goals (intro hb; try simp only [Bool.not_eq_true', Bool.not_eq_false'] at hb))
              apply f_endO (S2 := (S.set b (Blk.cells [.int .i64 k, .int .i64 i0, .int .i64 0, .str []])).set a (.cells [.str t, .int .i64 (scP t (skipC (wordC (wordC s).2).2) : Nat), errV q2])) (L := [(Blk.cells [.str kw, .sval false (words.map AV.str), .bool true, .bool false, .bool false, .int .i64 lo, .int .i64 hi, .int .i64 mx, .bool name])])
              · (simp only [go_sem, *]; try rfl)
              · (simp only [go_sem, *]; try rfl)
              · simp
              · exact out2 hO (errOk_v q2) (fun _ => rfl) hab
              · (simp only [go_sem, *, Tryz.results45]; try rfl)
              · (simp only [go_sem, *]; try rfl)
              · (simp only [go_sem, *]; try rfl)
              · exact h q2 (skipC (wordC (wordC s).2).2) ⟨k, i0, 0, []⟩ hr2
        | false =>
          simp only [Bool.false_eq_true, if_false] at H1 H0
          have hsk := skipL w0 (S.set b (Blk.cells [.int .i64 k, .int .i64 i0, .int .i64 0, .str []])) a t (wordC s).2 .inil [(Blk.cells [.str kw, .sval false (words.map AV.str), .bool false, .bool false, .bool false, .int .i64 lo, .int .i64 hi, .int .i64 mx, .bool name])] ht hi0 (hal _) hr1
          have hr2 := suf_skip hr1
          by_cases hz : skipC (wordC s).2 = []
          · have h := H1.out ⟨k, i0, 0, []⟩ (by rw [if_pos hz])
            simp only [cmB] at h
            rw [decide_eq_true hz, hz] at hsk
            clear hz
            repeat' first
              | apply x_seq | apply x_skip | apply x_block | apply x_exit | apply x_ret | apply x_ops_nil | apply p_blk | apply p_exit_it | apply p_exit_hit | apply p_ret_it | apply p_ret_blk | apply p_panic_it | apply p_panic_blk | apply p_end
              | (apply p_exit_miss; (focus rfl))
              | (apply x_region; simp only [List.toList_toArray])
              | (apply x_step0; (focus rfl); (focus (simp only [go_sem, *]; (try rfl); done)); (focus rfl); simp only [putA])
              | (apply x_callA []; (focus (simp only [go_sem, *]; (try rfl); done)); (focus rfl); (focus (simp only [go_sem, *]; (try rfl); done)); (focus rfl); (iterate 2 (focus (simp only [go_sem, *]; (try rfl); done))); (first | (apply hsk)); simp only [afterCall, putA])
              | (apply x_panic; (focus (simp only [go_sem, *]; (try rfl); done)); (focus rfl); (focus (simp only [go_sem, *]; (try rfl); done)))
              | (apply x_step; (iterate 2 (focus (simp only [go_sem, *]; (try rfl); done))); (focus rfl); simp only [putA])
              | (apply x_unwanted; (focus (simp only [go_sem, *]; (try rfl); done)); (focus rfl); simp only [putA])
              | (apply x_condT; (focus (simp only [go_sem, *]; (try rfl); done)))
              | (apply x_condF; (focus (simp only [go_sem, *]; (try rfl); done)))
              | (apply x_guardS; (focus rfl); (fail_if_success (focus (show _ = some true; (focus (simp only [go_sem, *]; (try rfl); done))))); (focus (simp only [go_sem, *]; (try rfl); done)); all_goals (intro hb; try simp only [Bool.not_eq_true', Bool.not_eq_false'] at hb))
              | (apply x_condS; (focus (simp only [go_sem, *]; (try rfl); done)); all_goals (intro hb; try simp only [Bool.not_eq_true', Bool.not_eq_false'] at hb))
            apply f_endO (S2 := (S.set b (Blk.cells [.int .i64 k, .int .i64 i0, .int .i64 0, .str []])).set a (.cells [.str t, .int .i64 (scP t [] : Nat), .inil])) (L := [(Blk.cells [.str kw, .sval false (words.map AV.str), .bool false, .bool false, .bool false, .int .i64 lo, .int .i64 hi, .int .i64 mx, .bool name])])
            · (simp only [go_sem, *]; try rfl)
            · (simp only [go_sem, *]; try rfl)
            · simp
            · exact out2 hO hi0 (fun _ => rfl) hab
            · (simp only [go_sem, *, Tryz.results45]; try rfl)
            · (simp only [go_sem, *]; try rfl)
            · (simp only [go_sem, *]; try rfl)
            · exact h
          · have h := H0.out (by rw [if_neg hz])
            have hf := fail' w0 (S.set b (Blk.cells [.int .i64 k, .int .i64 i0, .int .i64 0, .str []])) a t (scP t (skipC (wordC s).2) : Nat) .inil hi0 (hal _) [(Blk.cells [.str kw, .sval false (words.map AV.str), .bool false, .bool false, .bool false, .int .i64 lo, .int .i64 hi, .int .i64 mx, .bool name])]
            simp only [cmB] at h
            rw [decide_eq_false hz] at hsk
            clear hz
            repeat' first
              | apply x_seq | apply x_skip | apply x_block | apply x_exit | apply x_ret | apply x_ops_nil | apply p_blk | apply p_exit_it | apply p_exit_hit | apply p_ret_it | apply p_ret_blk | apply p_panic_it | apply p_panic_blk | apply p_end
              | (apply p_exit_miss; (focus rfl))
              | (apply x_region; simp only [List.toList_toArray])
              | (apply x_step0; (focus rfl); (focus (simp only [go_sem, *]; (try rfl); done)); (focus rfl); simp only [putA])
              | (apply x_callA []; (focus (simp only [go_sem, *]; (try rfl); done)); (focus rfl); (focus (simp only [go_sem, *]; (try rfl); done)); (focus rfl); (iterate 2 (focus (simp only [go_sem, *]; (try rfl); done))); (first | (apply hsk) | (apply hf)); simp only [afterCall, putA])
              | (apply x_panic; (focus (simp only [go_sem, *]; (try rfl); done)); (focus rfl); (focus (simp only [go_sem, *]; (try rfl); done)))
              | (apply x_step; (iterate 2 (focus (simp only [go_sem, *]; (try rfl); done))); (focus rfl); simp only [putA])
              | (apply x_unwanted; (focus (simp only [go_sem, *]; (try rfl); done)); (focus rfl); simp only [putA])
              | (apply x_condT; (focus (simp only [go_sem, *]; (try rfl); done)))
              | (apply x_condF; (focus (simp only [go_sem, *]; (try rfl); done)))
              | (apply x_guardS; (focus rfl); (fail_if_success (focus (show _ = some true; (focus (simp only [go_sem, *]; (try rfl); done))))); (focus (simp only [go_sem, *]; (try rfl); done)); all_goals (intro hb; try simp only [Bool.not_eq_true', Bool.not_eq_false'] at hb))
              | (apply x_condS; (focus (simp only [go_sem, *]; (try rfl); done)); all_goals (intro hb; try simp only [Bool.not_eq_true', Bool.not_eq_false'] at hb))
            intro q
            repeat' first
              | apply x_seq | apply x_skip | apply x_block | apply x_exit | apply x_ret | apply x_ops_nil | apply p_blk | apply p_exit_it | apply p_exit_hit | apply p_ret_it | apply p_ret_blk | apply p_panic_it | apply p_panic_blk | apply p_end
              | (apply p_exit_miss; (focus rfl))
              | (apply x_region; simp only [List.toList_toArray])
              | (apply x_step0; (focus rfl); (focus (simp only [go_sem, *]; (try rfl); done)); (focus rfl); simp only [putA])
              | (apply x_panic; (focus (simp only [go_sem, *]; (try rfl); done)); (focus rfl); (focus (simp only [go_sem, *]; (try rfl); done)))
              | (apply x_step; (iterate 2 (focus (simp only [go_sem, *]; (try rfl); done))); (focus rfl); simp only [putA])
              | (apply x_unwanted; (focus (simp only [go_sem, *]; (try rfl); done)); (focus rfl); simp only [putA])
              | (apply x_condT; (focus (simp only [go_sem, *]; (try rfl); done)))
              | (apply x_condF; (focus (simp only [go_sem, *]; (try rfl); done)))
              | (apply x_guardS; (focus rfl); (fail_if_success (focus (show _ = some true; (focus (simp only [go_sem, *]; (try rfl); done))))); (focus (simp only [go_sem, *]; (try rfl); done)); all_goals (intro hb; try simp only [Bool.not_eq_true', Bool.not_eq_false'] at hb))
              | (apply x_condS; (focus (simp only [go_sem, *]; (try rfl); done)); all_goals (intro hb; try simp only [Bool.not_eq_true', Bool.not_eq_false'] at hb))
            apply f_endO (S2 := (S.set b (Blk.cells [.int .i64 k, .int .i64 i0, .int .i64 0, .str []])).set a (.cells [.str t, .int .i64 (scP t (skipC (wordC s).2) : Nat), errV q])) (L := [(Blk.cells [.str kw, .sval false (words.map AV.str), .bool false, .bool false, .bool false, .int .i64 lo, .int .i64 hi, .int .i64 mx, .bool name])])
            · (simp only [go_sem, *]; try rfl)
            · (simp only [go_sem, *]; try rfl)
            · simp
            · exact out2 hO (errOk_v q) (fun _ => rfl) hab
            · (simp only [go_sem, *, Tryz.results45]; try rfl)
            · (simp only [go_sem, *]; try rfl)
            · (simp only [go_sem, *]; try rfl)
            · exact h q (skipC (wordC s).2) ⟨k, i0, 0, []⟩ hr2
      | none =>
        have hNe : N = -1 := HN2.out fun j _ => idx_none hid j
        subst hNe
        have hwc := Hwc0.out hid
        simp only [hwc] at H1 H0
        clear hwc
        have h := H0.out trivial
        simp only [cmB] at h
        clear hid hie hlt hi HI HN1 HN2 Hdi hwl hwo
        have hf1 := fail' w0 (S.set b (Blk.cells [.int .i64 k, .int .i64 (-1), .int .i64 0, .str []])) a t (scP t (wordC s).2 : Nat) .inil hi0 (hal _) [(Blk.cells [.str kw, .sval false (words.map AV.str), .bool number, .bool false, .bool false, .int .i64 lo, .int .i64 hi, .int .i64 mx, .bool name])]
        repeat' first
          | apply x_seq | apply x_skip | apply x_block | apply x_exit | apply x_ret | apply x_ops_nil | apply p_blk | apply p_exit_it | apply p_exit_hit | apply p_ret_it | apply p_ret_blk | apply p_panic_it | apply p_panic_blk | apply p_end
          | (apply p_exit_miss; (focus rfl))
          | (apply x_region; simp only [List.toList_toArray])
          | (apply x_step0; (focus rfl); (focus (simp only [go_sem, *]; (try rfl); done)); (focus rfl); simp only [putA])
          | (apply x_callA []; (focus (simp only [go_sem, *]; (try rfl); done)); (focus rfl); (focus (simp only [go_sem, *]; (try rfl); done)); (focus rfl); (iterate 2 (focus (simp only [go_sem, *]; (try rfl); done))); (first | (apply hf1)); simp only [afterCall, putA])
          | (apply x_panic; (focus (simp only [go_sem, *]; (try rfl); done)); (focus rfl); (focus (simp only [go_sem, *]; (try rfl); done)))
          | (apply x_step; (iterate 2 (focus (simp only [go_sem, *]; (try rfl); done))); (focus rfl); simp only [putA])
          | (apply x_unwanted; (focus (simp only [go_sem, *]; (try rfl); done)); (focus rfl); simp only [putA])
          | (apply x_condT; (focus (simp only [go_sem, *]; (try rfl); done)))
          | (apply x_condF; (focus (simp only [go_sem, *]; (try rfl); done)))
          | (apply x_guardS; (focus rfl); (fail_if_success (focus (show _ = some true; (focus (simp only [go_sem, *]; (try rfl); done))))); (focus (simp only [go_sem, *]; (try rfl); done)); all_goals (intro hb; try simp only [Bool.not_eq_true', Bool.not_eq_false'] at hb))
          | (apply x_condS; (focus (simp only [go_sem, *]; (try rfl); done)); all_goals (intro hb; try simp only [Bool.not_eq_true', Bool.not_eq_false'] at hb))
        intro q1
        cases number with
        | true =>
          have hr3 := (suf_word hr1).1
          have hnu := fun (R : AOut → List Blk → Prop) => numL w0 (S.set b (Blk.cells [.int .i64 k, .int .i64 (-1), .int .i64 0, .str []])) a t (wordC s).2 (errV q1) [(Blk.cells [.str kw, .sval false (words.map AV.str), .bool true, .bool false, .bool false, .int .i64 lo, .int .i64 hi, .int .i64 mx, .bool name])] ht (errOk_v q1) (hal _) hr1 R
          cases hn : numC (wordC (wordC s).2).1 with
          | some n =>
            have hnu := fun (R : AOut → List Blk → Prop) hh => hnu R (fun n' hn' => by rw [hn] at hn'; cases hn'; exact hh) (fun hn' => by rw [hn] at hn'; cases hn')
            have hr2 := suf_skip hr3
            have hsk := skipL w0 (S.set b (Blk.cells [.int .i64 k, .int .i64 (-1), .int .i64 n, .str []])) a t (wordC (wordC s).2).2 (errV q1) [(Blk.cells [.str kw, .sval false (words.map AV.str), .bool true, .bool false, .bool false, .int .i64 lo, .int .i64 hi, .int .i64 mx, .bool name])] ht (errOk_v _) (hal _) hr3
            have hf := fail' w0 (S.set b (Blk.cells [.int .i64 k, .int .i64 (-1), .int .i64 n, .str []])) a t (scP t (skipC (wordC (wordC s).2).2) : Nat) (errV q1) (errOk_v _) (hal _) [(Blk.cells [.str kw, .sval false (words.map AV.str), .bool true, .bool false, .bool false, .int .i64 lo, .int .i64 hi, .int .i64 mx, .bool name])]
            by_cases hz : skipC (wordC (wordC s).2).2 = []
            · rw [decide_eq_true hz] at hsk
              clear hz
              repeat' first
                | apply x_seq | apply x_skip | apply x_block | apply x_exit | apply x_ret | apply x_ops_nil | apply p_blk | apply p_exit_it | apply p_exit_hit | apply p_ret_it | apply p_ret_blk | apply p_panic_it | apply p_panic_blk | apply p_end
                | (apply p_exit_miss; (focus rfl))
                | (apply x_region; simp only [List.toList_toArray])
                | (apply x_step0; (focus rfl); (focus (simp only [go_sem, *]; (try rfl); done)); (focus rfl); simp only [putA])
                | (apply x_callA []; (focus (simp only [go_sem, *]; (try rfl); done)); (focus rfl); (focus (simp only [go_sem, *]; (try rfl); done)); (focus rfl); (iterate 2 (focus (simp only [go_sem, *]; (try rfl); done))); (first | (apply hnu) | (apply hsk)); simp only [afterCall, putA])
                | (apply x_panic; (focus (simp only [go_sem, *]; (try rfl); done)); (focus rfl); (focus (simp only [go_sem, *]; (try rfl); done)))
                | (apply x_step; (iterate 2 (focus (simp only [go_sem, *]; (try rfl); done))); (focus rfl); simp only [putA])
                | (apply x_unwanted; (focus (simp only [go_sem, *]; (try rfl); done)); (focus rfl); simp only [putA])
                | (apply x_condT; (focus (simp only [go_sem, *]; (try rfl); done)))
                | (apply x_condF; (focus (simp only [go_sem, *]; (try rfl); done)))
                | (apply x_guardS; (focus rfl); (fail_if_success (focus (show _ = some true; (focus (simp only [go_sem, *]; (try rfl); done))))); (focus (simp only [go_sem, *]; (try rfl); done)); all_goals (intro hb; try simp only [Bool.not_eq_true', Bool.not_eq_false'] at hb))
                | (apply x_condS; (focus (simp only [go_sem, *]; (try rfl); done)); all_goals (intro hb; try simp only [Bool.not_eq_true', Bool.not_eq_false'] at hb))
              apply f_endO (S2 := (S.set b (Blk.cells [.int .i64 k, .int .i64 (-1), .int .i64 n, .str []])).set a (.cells [.str t, .int .i64 (scP t (skipC (wordC (wordC s).2).2) : Nat), errV q1])) (L := [(Blk.cells [.str kw, .sval false (words.map AV.str), .bool true, .bool false, .bool false, .int .i64 lo, .int .i64 hi, .int .i64 mx, .bool name])])
              · (simp only [go_sem, *]; try rfl)
              · (simp only [go_sem, *]; try rfl)
              · simp
              · exact out2 hO (errOk_v _) (fun _ => rfl) hab
              · (simp only [go_sem, *, Tryz.results45]; try rfl)
              · (simp only [go_sem, *]; try rfl)
              · (simp only [go_sem, *]; try rfl)
              · exact h _ (skipC (wordC (wordC s).2).2) ⟨k, (-1), n, []⟩ hr2
            · rw [decide_eq_false hz] at hsk
              clear hz
              repeat' first
                | apply x_seq | apply x_skip | apply x_block | apply x_exit | apply x_ret | apply x_ops_nil | apply p_blk | apply p_exit_it | apply p_exit_hit | apply p_ret_it | apply p_ret_blk | apply p_panic_it | apply p_panic_blk | apply p_end
                | (apply p_exit_miss; (focus rfl))
                | (apply x_region; simp only [List.toList_toArray])
                | (apply x_step0; (focus rfl); (focus (simp only [go_sem, *]; (try rfl); done)); (focus rfl); simp only [putA])
                | (apply x_callA []; (focus (simp only [go_sem, *]; (try rfl); done)); (focus rfl); (focus (simp only [go_sem, *]; (try rfl); done)); (focus rfl); (iterate 2 (focus (simp only [go_sem, *]; (try rfl); done))); (first | (apply hnu) | (apply hsk) | (apply hf)); simp only [afterCall, putA])
                | (apply x_panic; (focus (simp only [go_sem, *]; (try rfl); done)); (focus rfl); (focus (simp only [go_sem, *]; (try rfl); done)))
                | (apply x_step; (iterate 2 (focus (simp only [go_sem, *]; (try rfl); done))); (focus rfl); simp only [putA])
                | (apply x_unwanted; (focus (simp only [go_sem, *]; (try rfl); done)); (focus rfl); simp only [putA])
                | (apply x_condT; (focus (simp only [go_sem, *]; (try rfl); done)))
                | (apply x_condF; (focus (simp only [go_sem, *]; (try rfl); done)))
                | (apply x_guardS; (focus rfl); (fail_if_success (focus (show _ = some true; (focus (simp only [go_sem, *]; (try rfl); done))))); (focus (simp only [go_sem, *]; (try rfl); done)); all_goals (intro hb; try simp only [Bool.not_eq_true', Bool.not_eq_false'] at hb))
                | (apply x_condS; (focus (simp only [go_sem, *]; (try rfl); done)); all_goals (intro hb; try simp only [Bool.not_eq_true', Bool.not_eq_false'] at hb))
              intro q2
              repeat' first
                | apply x_seq | apply x_skip | apply x_block | apply x_exit | apply x_ret | apply x_ops_nil | apply p_blk | apply p_exit_it | apply p_exit_hit | apply p_ret_it | apply p_ret_blk | apply p_panic_it | apply p_panic_blk | apply p_end
                | (apply p_exit_miss; (focus rfl))
                | (apply x_region; simp only [List.toList_toArray])
                | (apply x_step0; (focus rfl); (focus (simp only [go_sem, *]; (try rfl); done)); (focus rfl); simp only [putA])
                | (apply x_panic; (focus (simp only [go_sem, *]; (try rfl); done)); (focus rfl); (focus (simp only [go_sem, *]; (try rfl); done)))
                | (apply x_step; (iterate 2 (focus (simp only [go_sem, *]; (try rfl); done))); (focus rfl); simp only [putA])
                | (apply x_unwanted; (focus (simp only [go_sem, *]; (try rfl); done)); (focus rfl); simp only [putA])
                | (apply x_condT; (focus (simp only [go_sem, *]; (try rfl); done)))
                | (apply x_condF; (focus (simp only [go_sem, *]; (try rfl); done)))
                | (apply x_guardS; (focus rfl); (fail_if_success (focus (show _ = some true; (focus (simp only [go_sem, *]; (try rfl); done))))); (focus (simp only [go_sem, *]; (try rfl); done)); all_goals (intro hb; try simp only [Bool.not_eq_true', Bool.not_eq_false'] at hb))
                | (apply x_condS; (focus (simp only [go_sem, *]; (try rfl); done)); all_goals (intro hb; try simp only [Bool.not_eq_true', Bool.not_eq_false'] at hb))
              apply f_endO (S2 := (S.set b (Blk.cells [.int .i64 k, .int .i64 (-1), .int .i64 n, .str []])).set a (.cells [.str t, .int .i64 (scP t (skipC (wordC (wordC s).2).2) : Nat), errV q2])) (L := [(Blk.cells [.str kw, .sval false (words.map AV.str), .bool true, .bool false, .bool false, .int .i64 lo, .int .i64 hi, .int .i64 mx, .bool name])])
              · (simp only [go_sem, *]; try rfl)
              · (simp only [go_sem, *]; try rfl)
              · simp
              · exact out2 hO (errOk_v q2) (fun _ => rfl) hab
              · (simp only [go_sem, *, Tryz.results45]; try rfl)
              · (simp only [go_sem, *]; try rfl)
              · (simp only [go_sem, *]; try rfl)
              · exact h q2 (skipC (wordC (wordC s).2).2) ⟨k, (-1), n, []⟩ hr2
          | none =>
            have hnu := fun (R : AOut → List Blk → Prop) hh => hnu R (fun n' hn' => by rw [hn] at hn'; cases hn') (fun _ => hh)
            repeat' first
              | apply x_seq | apply x_skip | apply x_block | apply x_exit | apply x_ret | apply x_ops_nil | apply p_blk | apply p_exit_it | apply p_exit_hit | apply p_ret_it | apply p_ret_blk | apply p_panic_it | apply p_panic_blk | apply p_end
              | (apply p_exit_miss; (focus rfl))
              | (apply x_region; simp only [List.toList_toArray])
              | (apply x_step0; (focus rfl); (focus (simp only [go_sem, *]; (try rfl); done)); (focus rfl); simp only [putA])
              | (apply x_callA []; (focus (simp only [go_sem, *]; (try rfl); done)); (focus rfl); (focus (simp only [go_sem, *]; (try rfl); done)); (focus rfl); (iterate 2 (focus (simp only [go_sem, *]; (try rfl); done))); (first | (apply hnu)); simp only [afterCall, putA])
              | (apply x_panic; (focus (simp only [go_sem, *]; (try rfl); done)); (focus rfl); (focus (simp only [go_sem, *]; (try rfl); done)))
              | (apply x_step; (iterate 2 (focus (simp only [go_sem, *]; (try rfl); done))); (focus rfl); simp only [putA])
              | (apply x_unwanted; (focus (simp only [go_sem, *]; (try rfl); done)); (focus rfl); simp only [putA])
              | (apply x_condT; (focus (simp only [go_sem, *]; (try rfl); done)))
              | (apply x_condF; (focus (simp only [go_sem, *]; (try rfl); done)))
              | (apply x_guardS; (focus rfl); (fail_if_success (focus (show _ = some true; (focus (simp only [go_sem, *]; (try rfl); done))))); (focus (simp only [go_sem, *]; (try rfl); done)); all_goals (intro hb; try simp only [Bool.not_eq_true', Bool.not_eq_false'] at hb))
              | (apply x_condS; (focus (simp only [go_sem, *]; (try rfl); done)); all_goals (intro hb; try simp only [Bool.not_eq_true', Bool.not_eq_false'] at hb))
            intro q
            have hr2 := suf_skip hr3
            have hsk := skipL w0 (S.set b (Blk.cells [.int .i64 k, .int .i64 (-1), .int .i64 0, .str []])) a t (wordC (wordC s).2).2 (errV q) [(Blk.cells [.str kw, .sval false (words.map AV.str), .bool true, .bool false, .bool false, .int .i64 lo, .int .i64 hi, .int .i64 mx, .bool name])] ht (errOk_v _) (hal _) hr3
            have hf := fail' w0 (S.set b (Blk.cells [.int .i64 k, .int .i64 (-1), .int .i64 0, .str []])) a t (scP t (skipC (wordC (wordC s).2).2) : Nat) (errV q) (errOk_v _) (hal _) [(Blk.cells [.str kw, .sval false (words.map AV.str), .bool true, .bool false, .bool false, .int .i64 lo, .int .i64 hi, .int .i64 mx, .bool name])]
            by_cases hz : skipC (wordC (wordC s).2).2 = []
            · rw [decide_eq_true hz] at hsk
              clear hz
              repeat' first
                | apply x_seq | apply x_skip | apply x_block | apply x_exit | apply x_ret | apply x_ops_nil | apply p_blk | apply p_exit_it | apply p_exit_hit | apply p_ret_it | apply p_ret_blk | apply p_panic_it | apply p_panic_blk | apply p_end
                | (apply p_exit_miss; (focus rfl))
                | (apply x_region; simp only [List.toList_toArray])
                | (apply x_step0; (focus rfl); (focus (simp only [go_sem, *]; (try rfl); done)); (focus rfl); simp only [putA])
                | (apply x_callA []; (focus (simp only [go_sem, *]; (try rfl); done)); (focus rfl); (focus (simp only [go_sem, *]; (try rfl); done)); (focus rfl); (iterate 2 (focus (simp only [go_sem, *]; (try rfl); done))); (first | (apply hsk)); simp only [afterCall, putA])
                | (apply x_panic; (focus (simp only [go_sem, *]; (try rfl); done)); (focus rfl); (focus (simp only [go_sem, *]; (try rfl); done)))
                | (apply x_step; (iterate 2 (focus (simp only [go_sem, *]; (try rfl); done))); (focus rfl); simp only [putA])
                | (apply x_unwanted; (focus (simp only [go_sem, *]; (try rfl); done)); (focus rfl); simp only [putA])
                | (apply x_condT; (focus (simp only [go_sem, *]; (try rfl); done)))
                | (apply x_condF; (focus (simp only [go_sem, *]; (try rfl); done)))
                | (apply x_guardS; (focus rfl); (fail_if_success (focus (show _ = some true; (focus (simp only [go_sem, *]; (try rfl); done))))); (focus (simp only [go_sem, *]; (try rfl); done)); all_goals (intro hb; try simp only [Bool.not_eq_true', Bool.not_eq_false'] at hb))
                | (apply x_condS; (focus (simp only [go_sem, *]; (try rfl); done)); all_goals (intro hb; try simp only [Bool.not_eq_true', Bool.not_eq_false'] at hb))
              apply f_endO (S2 := (S.set b (Blk.cells [.int .i64 k, .int .i64 (-1), .int .i64 0, .str []])).set a (.cells [.str t, .int .i64 (scP t (skipC (wordC (wordC s).2).2) : Nat), errV q])) (L := [(Blk.cells [.str kw, .sval false (words.map AV.str), .bool true, .bool false, .bool false, .int .i64 lo, .int .i64 hi, .int .i64 mx, .bool name])])
              · (simp only [go_sem, *]; try rfl)
              · (simp only [go_sem, *]; try rfl)
              · simp
              · exact out2 hO (errOk_v _) (fun _ => rfl) hab
              · (simp only [go_sem, *, Tryz.results45]; try rfl)
              · (simp only [go_sem, *]; try rfl)
              · (simp only [go_sem, *]; try rfl)
              · exact h _ (skipC (wordC (wordC s).2).2) ⟨k, (-1), 0, []⟩ hr2
            · rw [decide_eq_false hz] at hsk
              clear hz
              repeat' first
                | apply x_seq | apply x_skip | apply x_block | apply x_exit | apply x_ret | apply x_ops_nil | apply p_blk | apply p_exit_it | apply p_exit_hit | apply p_ret_it | apply p_ret_blk | apply p_panic_it | apply p_panic_blk | apply p_end
                | (apply p_exit_miss; (focus rfl))
                | (apply x_region; simp only [List.toList_toArray])
                | (apply x_step0; (focus rfl); (focus (simp only [go_sem, *]; (try rfl); done)); (focus rfl); simp only [putA])
                | (apply x_callA []; (focus (simp only [go_sem, *]; (try rfl); done)); (focus rfl); (focus (simp only [go_sem, *]; (try rfl); done)); (focus rfl); (iterate 2 (focus (simp only [go_sem, *]; (try rfl); done))); (first | (apply hsk) | (apply hf)); simp only [afterCall, putA])
                | (apply x_panic; (focus (simp only [go_sem, *]; (try rfl); done)); (focus rfl); (focus (simp only [go_sem, *]; (try rfl); done)))
                | (apply x_step; (iterate 2 (focus (simp only [go_sem, *]; (try rfl); done))); (focus rfl); simp only [putA])
                | (apply x_unwanted; (focus (simp only [go_sem, *]; (try rfl); done)); (focus rfl); simp only [putA])
                | (apply x_condT; (focus (simp only [go_sem, *]; (try rfl); done)))
                | (apply x_condF; (focus (simp only [go_sem, *]; (try rfl); done)))
                | (apply x_guardS; (focus rfl); (fail_if_success (focus (show _ = some true; (focus (simp only [go_sem, *]; (try rfl); done))))); (focus (simp only [go_sem, *]; (try rfl); done)); all_goals (intro hb; try simp only [Bool.not_eq_true', Bool.not_eq_false'] at hb))
                | (apply x_condS; (focus (simp only [go_sem, *]; (try rfl); done)); all_goals (intro hb; try simp only [Bool.not_eq_true', Bool.not_eq_false'] at hb))
              intro q2
              repeat' first
                | apply x_seq | apply x_skip | apply x_block | apply x_exit | apply x_ret | apply x_ops_nil | apply p_blk | apply p_exit_it | apply p_exit_hit | apply p_ret_it | apply p_ret_blk | apply p_panic_it | apply p_panic_blk | apply p_end
                | (apply p_exit_miss; (focus rfl))
                | (apply x_region; simp only [List.toList_toArray])
                | (apply x_step0; (focus rfl); (focus (simp only [go_sem, *]; (try rfl); done)); (focus rfl); simp only [putA])
                | (apply x_panic; (focus (simp only [go_sem, *]; (try rfl); done)); (focus rfl); (focus (simp only [go_sem, *]; (try rfl); done)))
                | (apply x_step; (iterate 2 (focus (simp only [go_sem, *]; (try rfl); done))); (focus rfl); simp only [putA])
                | (apply x_unwanted; (focus (simp only [go_sem, *]; (try rfl); done)); (focus rfl); simp only [putA])
                | (apply x_condT; (focus (simp only [go_sem, *]; (try rfl); done)))
                | (apply x_condF; (focus (simp only [go_sem, *]; (try rfl); done)))
                | (apply x_guardS; (focus rfl); (fail_if_success (focus (show _ = some true; (focus (simp only [go_sem, *]; (try rfl); done))))); (focus (simp only [go_sem, *]; (try rfl); done)); all_goals (intro hb; try simp only [Bool.not_eq_true', Bool.not_eq_false'] at hb))
                | (apply x_condS; (focus (simp only [go_sem, *]; (try rfl); done)); all_goals (intro hb; try simp only [Bool.not_eq_true', Bool.not_eq_false'] at hb))
              apply f_endO (S2 := (S.set b (Blk.cells [.int .i64 k, .int .i64 (-1), .int .i64 0, .str []])).set a (.cells [.str t, .int .i64 (scP t (skipC (wordC (wordC s).2).2) : Nat), errV q2])) (L := [(Blk.cells [.str kw, .sval false (words.map AV.str), .bool true, .bool false, .bool false, .int .i64 lo, .int .i64 hi, .int .i64 mx, .bool name])])
              · (simp only [go_sem, *]; try rfl)
              · (simp only [go_sem, *]; try rfl)
              · simp
              · exact out2 hO (errOk_v q2) (fun _ => rfl) hab
              · (simp only [go_sem, *, Tryz.results45]; try rfl)
              · (simp only [go_sem, *]; try rfl)
              · (simp only [go_sem, *]; try rfl)
              · exact h q2 (skipC (wordC (wordC s).2).2) ⟨k, (-1), 0, []⟩ hr2
        | false =>
          have hr2 := suf_skip hr1
          have hsk := skipL w0 (S.set b (Blk.cells [.int .i64 k, .int .i64 (-1), .int .i64 0, .str []])) a t (wordC s).2 (errV q1) [(Blk.cells [.str kw, .sval false (words.map AV.str), .bool false, .bool false, .bool false, .int .i64 lo, .int .i64 hi, .int .i64 mx, .bool name])] ht (errOk_v _) (hal _) hr1
          have hf := fail' w0 (S.set b (Blk.cells [.int .i64 k, .int .i64 (-1), .int .i64 0, .str []])) a t (scP t (skipC (wordC s).2) : Nat) (errV q1) (errOk_v _) (hal _) [(Blk.cells [.str kw, .sval false (words.map AV.str), .bool false, .bool false, .bool false, .int .i64 lo, .int .i64 hi, .int .i64 mx, .bool name])]
          by_cases hz : skipC (wordC s).2 = []
          · rw [decide_eq_true hz] at hsk
            clear hz
            repeat' first
              | apply x_seq | apply x_skip | apply x_block | apply x_exit | apply x_ret | apply x_ops_nil | apply p_blk | apply p_exit_it | apply p_exit_hit | apply p_ret_it | apply p_ret_blk | apply p_panic_it | apply p_panic_blk | apply p_end
              | (apply p_exit_miss; (focus rfl))
              | (apply x_region; simp only [List.toList_toArray])
              | (apply x_step0; (focus rfl); (focus (simp only [go_sem, *]; (try rfl); done)); (focus rfl); simp only [putA])
              | (apply x_callA []; (focus (simp only [go_sem, *]; (try rfl); done)); (focus rfl); (focus (simp only [go_sem, *]; (try rfl); done)); (focus rfl); (iterate 2 (focus (simp only [go_sem, *]; (try rfl); done))); (first | (apply hsk)); simp only [afterCall, putA])
              | (apply x_panic; (focus (simp only [go_sem, *]; (try rfl); done)); (focus rfl); (focus (simp only [go_sem, *]; (try rfl); done)))
              | (apply x_step; (iterate 2 (focus (simp only [go_sem, *]; (try rfl); done))); (focus rfl); simp only [putA])
              | (apply x_unwanted; (focus (simp only [go_sem, *]; (try rfl); done)); (focus rfl); simp only [putA])
              | (apply x_condT; (focus (simp only [go_sem, *]; (try rfl); done)))
              | (apply x_condF; (focus (simp only [go_sem, *]; (try rfl); done)))
              | (apply x_guardS; (focus rfl); (fail_if_success (focus (show _ = some true; (focus (simp only [go_sem, *]; (try rfl); done))))); (focus (simp only [go_sem, *]; (try rfl); done)); all_goals (intro hb; try simp only [Bool.not_eq_true', Bool.not_eq_false'] at hb))
              | (apply x_condS; (focus (simp only [go_sem, *]; (try rfl); done)); all_goals (intro hb; try simp only [Bool.not_eq_true', Bool.not_eq_false'] at hb))
            apply f_endO (S2 := (S.set b (Blk.cells [.int .i64 k, .int .i64 (-1), .int .i64 0, .str []])).set a (.cells [.str t, .int .i64 (scP t (skipC (wordC s).2) : Nat), errV q1])) (L := [(Blk.cells [.str kw, .sval false (words.map AV.str), .bool false, .bool false, .bool false, .int .i64 lo, .int .i64 hi, .int .i64 mx, .bool name])])
            · (simp only [go_sem, *]; try rfl)
            · (simp only [go_sem, *]; try rfl)
            · simp
            · exact out2 hO (errOk_v _) (fun _ => rfl) hab
            · (simp only [go_sem, *, Tryz.results45]; try rfl)
            · (simp only [go_sem, *]; try rfl)
            · (simp only [go_sem, *]; try rfl)
            · exact h _ (skipC (wordC s).2) ⟨k, (-1), 0, []⟩ hr2
          · rw [decide_eq_false hz] at hsk
            clear hz
            repeat' first
              | apply x_seq | apply x_skip | apply x_block | apply x_exit | apply x_ret | apply x_ops_nil | apply p_blk | apply p_exit_it | apply p_exit_hit | apply p_ret_it | apply p_ret_blk | apply p_panic_it | apply p_panic_blk | apply p_end
              | (apply p_exit_miss; (focus rfl))
              | (apply x_region; simp only [List.toList_toArray])
              | (apply x_step0; (focus rfl); (focus (simp only [go_sem, *]; (try rfl); done)); (focus rfl); simp only [putA])
              | (apply x_callA []; (focus (simp only [go_sem, *]; (try rfl); done)); (focus rfl); (focus (simp only [go_sem, *]; (try rfl); done)); (focus rfl); (iterate 2 (focus (simp only [go_sem, *]; (try rfl); done))); (first | (apply hsk) | (apply hf)); simp only [afterCall, putA])
              | (apply x_panic; (focus (simp only [go_sem, *]; (try rfl); done)); (focus rfl); (focus (simp only [go_sem, *]; (try rfl); done)))
              | (apply x_step; (iterate 2 (focus (simp only [go_sem, *]; (try rfl); done))); (focus rfl); simp only [putA])
              | (apply x_unwanted; (focus (simp only [go_sem, *]; (try rfl); done)); (focus rfl); simp only [putA])
              | (apply x_condT; (focus (simp only [go_sem, *]; (try rfl); done)))
              | (apply x_condF; (focus (simp only [go_sem, *]; (try rfl); done)))
              | (apply x_guardS; (focus rfl); (fail_if_success (focus (show _ = some true; (focus (simp only [go_sem, *]; (try rfl); done))))); (focus (simp only [go_sem, *]; (try rfl); done)); all_goals (intro hb; try simp only [Bool.not_eq_true', Bool.not_eq_false'] at hb))
              | (apply x_condS; (focus (simp only [go_sem, *]; (try rfl); done)); all_goals (intro hb; try simp only [Bool.not_eq_true', Bool.not_eq_false'] at hb))
            intro q2
            repeat' first
              | apply x_seq | apply x_skip | apply x_block | apply x_exit | apply x_ret | apply x_ops_nil | apply p_blk | apply p_exit_it | apply p_exit_hit | apply p_ret_it | apply p_ret_blk | apply p_panic_it | apply p_panic_blk | apply p_end
              | (apply p_exit_miss; (focus rfl))
              | (apply x_region; simp only [List.toList_toArray])
              | (apply x_step0; (focus rfl); (focus (simp only [go_sem, *]; (try rfl); done)); (focus rfl); simp only [putA])
              | (apply x_panic; (focus (simp only [go_sem, *]; (try rfl); done)); (focus rfl); (focus (simp only [go_sem, *]; (try rfl); done)))
              | (apply x_step; (iterate 2 (focus (simp only [go_sem, *]; (try rfl); done))); (focus rfl); simp only [putA])
              | (apply x_unwanted; (focus (simp only [go_sem, *]; (try rfl); done)); (focus rfl); simp only [putA])
              | (apply x_condT; (focus (simp only [go_sem, *]; (try rfl); done)))
              | (apply x_condF; (focus (simp only [go_sem, *]; (try rfl); done)))
              | (apply x_guardS; (focus rfl); (fail_if_success (focus (show _ = some true; (focus (simp only [go_sem, *]; (try rfl); done))))); (focus (simp only [go_sem, *]; (try rfl); done)); all_goals (intro hb; try simp only [Bool.not_eq_true', Bool.not_eq_false'] at hb))
              | (apply x_condS; (focus (simp only [go_sem, *]; (try rfl); done)); all_goals (intro hb; try simp only [Bool.not_eq_true', Bool.not_eq_false'] at hb))
            apply f_endO (S2 := (S.set b (Blk.cells [.int .i64 k, .int .i64 (-1), .int .i64 0, .str []])).set a (.cells [.str t, .int .i64 (scP t (skipC (wordC s).2) : Nat), errV q2])) (L := [(Blk.cells [.str kw, .sval false (words.map AV.str), .bool false, .bool false, .bool false, .int .i64 lo, .int .i64 hi, .int .i64 mx, .bool name])])
            · (simp only [go_sem, *]; try rfl)
            · (simp only [go_sem, *]; try rfl)
            · simp
            · exact out2 hO (errOk_v q2) (fun _ => rfl) hab
            · (simp only [go_sem, *, Tryz.results45]; try rfl)
            · (simp only [go_sem, *]; try rfl)
            · (simp only [go_sem, *]; try rfl)
            · exact h q2 (skipC (wordC s).2) ⟨k, (-1), 0, []⟩ hr2
end Go.Proofs.YtcobfilbmfokoaaGreatDoor
