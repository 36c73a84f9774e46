/- YtnndmokndgnidaaGreatDoorWalk0. Texts of the proof of a law about recordings: a layer of abstract values above the worlds, the types, the walks of the functions that the law reaches, the law and its card. Own work of an AI agent. -/
import Derived.Test.YtnndmokndgnidaaGreatDoorCore1
import Derived.Test.YtnndmokndgnidaaGreatDoorTy
import Derived.Lib.Hide
import Derived.IntWalk
set_option linter.all false
set_option linter.unusedVariables false
set_option linter.unusedSimpArgs false
namespace Go.Proofs.YtnndmokndgnidaaGreatDoor
open Go Go.Fen
set_option linter.unusedSimpArgs false
set_option linter.unusedVariables false
attribute [local irreducible] RunX WP ACall AnyP OpA ProtL
set_option maxRecDepth 8000
def sizeB (c r : Int) : Bool := decide (2 ≤ c) && decide (c ≤ 80) && decide (1 ≤ r) && decide (r ≤ 40)
structure It where
  wait : Int
  kind : Int
  cols : Int
  rows : Int
  text : List UInt8
  deriving DecidableEq
def It.av (x : It) : AV := .agg [.int .i64 x.wait, .int .i64 x.kind, .int .i64 x.cols, .int .i64 x.rows, .str x.text]
theorem It.plain (x : It) : x.av.plain = true := rfl
theorem It.lt (x : It) (n : Nat) : x.av.lt n = true := rfl
structure Rec where
  cols : Int
  rows : Int
  items : List It
  deriving DecidableEq
def Rec.av (x : Rec) : AV := .agg [.int .i64 x.cols, .int .i64 x.rows, .sval false (x.items.map It.av)]
@[go_sem] theorem It.plainL (l : List It) : plainL (l.map It.av) = true := plainL_map It.plain l
@[go_sem] theorem It.ltL (l : List It) (n : Nat) : ltL n (l.map It.av) = true := ltL_iff.2 fun x hx => by obtain ⟨y, _, rfl⟩ := List.mem_map.1 hx; rfl
@[go_sem] theorem It.ok (l : List It) : okEls 5 (l.map It.av) = true := by
  unfold okEls; rw [List.all_eq_true]; intro x hx; obtain ⟨y, _, rfl⟩ := List.mem_map.1 hx; rfl
def itemB (x : It) : Bool :=
  decide (0 ≤ x.wait) && decide (x.wait ≤ 1000000) &&
  (if x.kind == 1 || x.kind == 2 then decide ((x.text.length : Int) ≤ 4096) && x.cols == 0 && x.rows == 0
   else if x.kind == 4 then decide ((x.text.length : Int) ≤ 200) && x.cols == 0 && x.rows == 0
   else if x.kind == 3 then sizeB x.cols x.rows && x.text == [] else false)
end Go.Proofs.YtnndmokndgnidaaGreatDoor
namespace Go.Proofs.YtnndmokndgnidaaGreatDoor
open Go Go.Fen
set_option linter.unusedSimpArgs false
set_option linter.unusedVariables false
attribute [local irreducible] RunX WP ACall AnyP OpA ProtL
set_option maxRecDepth 8000
def checkB (r : Rec) : Bool := sizeB r.cols r.rows && decide (r.items.length ≤ 1000) && r.items.all itemB
end Go.Proofs.YtnndmokndgnidaaGreatDoor
namespace Go.Proofs.YtnndmokndgnidaaGreatDoor
open Go Go.Fen
set_option linter.unusedSimpArgs false
set_option linter.unusedVariables false
attribute [local irreducible] RunX WP ACall AnyP OpA ProtL
set_option maxRecDepth 8000
end Go.Proofs.YtnndmokndgnidaaGreatDoor
namespace Go.Proofs.YtnndmokndgnidaaGreatDoor
open Go Go.Fen
set_option linter.unusedSimpArgs false
set_option linter.unusedVariables false
attribute [local irreducible] RunX WP ACall AnyP OpA ProtL
set_option maxRecDepth 8000
structure DIt where
  wait : Nat
  kind : Nat
  cols : Nat
  rows : Nat
  text : List UInt8
structure Dr where
  cols : Nat
  rows : Nat
  items : List DIt
def DIt.av (x : DIt) : AV := .agg [.int .u32 x.wait, .int .u8 x.kind, .int .u8 x.cols, .int .u8 x.rows, .str x.text]
def Dr.av (x : Dr) : AV := .agg [.int .u8 x.cols, .int .u8 x.rows, .sval false (x.items.map DIt.av)]
@[go_sem] theorem DIt.plainL (l : List DIt) : plainL (l.map DIt.av) = true := plainL_map (fun _ => rfl) l
@[go_sem] theorem DIt.ltL (l : List DIt) (n : Nat) : ltL n (l.map DIt.av) = true := ltL_iff.2 fun x hx => by obtain ⟨y, _, rfl⟩ := List.mem_map.1 hx; rfl
def DIt.item (x : DIt) : It :=
  if x.kind % 4 = 2 then ⟨x.wait % 1000001, 3, 2 + x.cols % 79, 1 + x.rows % 40, []⟩ else ⟨x.wait % 1000001, 1 + x.kind % 4, 0, 0, x.text.take 200⟩
end Go.Proofs.YtnndmokndgnidaaGreatDoor
namespace Go.Proofs.YtnndmokndgnidaaGreatDoor
open Go Go.Fen
set_option linter.unusedSimpArgs false
set_option linter.unusedVariables false
attribute [local irreducible] RunX WP ACall AnyP OpA ProtL
set_option maxRecDepth 8000
set_option maxHeartbeats 400000 in
theorem within (w0 : World) (S : List Blk) (n a b : Int) (R : AOut → List Blk → Prop) (h : R (.ret (.bool (decide (a ≤ n) && decide (n ≤ b)))) S) :
    ACall Tryz.prog w0 49 [.int .i64 n, .int .i64 a, .int .i64 b] S R := by
  refine enter Tryz.func49 rfl (by decide +kernel) (by rw [Tryz.ntmps49]; simp) (by rw [Tryz.ntmps49]; decide) (fun hO => ?_); rw [Tryz.ntmps49]
  repeat' first
    | apply x_seq | apply x_skip | apply x_block | apply x_exit | apply x_ret | apply x_ops_nil | apply p_blk | apply p_exit_it | apply p_exit_hit | apply p_ret_it | apply p_ret_blk | apply p_panic_it | apply p_panic_blk | apply p_end
    | (apply p_exit_miss; (focus rfl))
    | (apply x_region; simp only [List.toList_toArray])
    | (apply x_step0; (focus rfl); (focus (simp only [go_sem, *]; (try rfl); done)); (focus rfl); simp only [putA])
    | (apply x_panic; (focus (simp only [go_sem, *]; (try rfl); done)); (focus rfl); (focus (simp only [go_sem, *]; (try rfl); done)))
    | (apply x_step; (iterate 2 (focus (simp only [go_sem, *]; (try rfl); done))); (focus rfl); simp only [putA])
    | (apply x_unwanted; (focus (simp only [go_sem, *]; (try rfl); done)); (focus rfl); simp only [putA])
    | (apply x_condT; (focus (simp only [go_sem, *]; (try rfl); done)))
    | (apply x_condF; (focus (simp only [go_sem, *]; (try rfl); done)))
    | (apply x_guardS; (focus rfl); (fail_if_success (focus (show _ = some true; (focus (simp only [go_sem, *]; (try rfl); done))))); (focus (simp only [go_sem, *]; (try rfl); done)); all_goals (intro hb; try simp only [Bool.not_eq_true', Bool.not_eq_false'] at hb))
    | (apply x_condS; (focus (simp only [go_sem, *]; (try rfl); done)); all_goals (intro hb; try simp only [Bool.not_eq_true', Bool.not_eq_false'] at hb))
  all_goals (apply f_ret; iterate 7 (focus (simp only [go_sem, *, Tryz.results49]; (try rfl); done)))
  all_goals simpa [*] using h
set_option maxHeartbeats 400000 in
theorem size (w0 : World) (S : List Blk) (c r : Int) (R : AOut → List Blk → Prop) (h : R (.ret (.bool (sizeB c r))) S) :
    ACall Tryz.prog w0 40 [.int .i64 c, .int .i64 r] S R := by
  refine enter Tryz.func40 rfl (by decide +kernel) (by rw [Tryz.ntmps40]; simp) (by rw [Tryz.ntmps40]; decide) (fun hO => ?_); rw [Tryz.ntmps40]
  repeat' first
    | apply x_seq | apply x_skip | apply x_block | apply x_exit | apply x_ret | apply x_ops_nil | apply p_blk | apply p_exit_it | apply p_exit_hit | apply p_ret_it | apply p_ret_blk | apply p_panic_it | apply p_panic_blk | apply p_end
    | (apply p_exit_miss; (focus rfl))
    | (apply x_region; simp only [List.toList_toArray])
    | (apply x_step0; (focus rfl); (focus (simp only [go_sem, *]; (try rfl); done)); (focus rfl); simp only [putA])
    | (apply x_callA []; (focus (simp only [go_sem, *]; (try rfl); done)); (focus rfl); (focus (simp only [go_sem, *]; (try rfl); done)); (focus rfl); (iterate 2 (focus (simp only [go_sem, *]; (try rfl); done))); (first | (apply within)); simp only [afterCall, putA])
    | (apply x_panic; (focus (simp only [go_sem, *]; (try rfl); done)); (focus rfl); (focus (simp only [go_sem, *]; (try rfl); done)))
    | (apply x_step; (iterate 2 (focus (simp only [go_sem, *]; (try rfl); done))); (focus rfl); simp only [putA])
    | (apply x_unwanted; (focus (simp only [go_sem, *]; (try rfl); done)); (focus rfl); simp only [putA])
    | (apply x_condT; (focus (simp only [go_sem, *]; (try rfl); done)))
    | (apply x_condF; (focus (simp only [go_sem, *]; (try rfl); done)))
    | (apply x_guardS; (focus rfl); (fail_if_success (focus (show _ = some true; (focus (simp only [go_sem, *]; (try rfl); done))))); (focus (simp only [go_sem, *]; (try rfl); done)); all_goals (intro hb; try simp only [Bool.not_eq_true', Bool.not_eq_false'] at hb))
    | (apply x_condS; (focus (simp only [go_sem, *]; (try rfl); done)); all_goals (intro hb; try simp only [Bool.not_eq_true', Bool.not_eq_false'] at hb))
  all_goals (apply f_ret; iterate 7 (focus (simp only [go_sem, *, Tryz.results40]; (try rfl); done)))
  all_goals
    refine cast (congrArg (fun b => R (.ret (.bool b)) S) ?_) h
    simp only [decide_eq_true_eq, decide_eq_false_iff_not, Bool.and_eq_true, Bool.and_eq_false_iff, Int.not_le] at *
    unfold sizeB
    first
    | (simp [*]; done)
    | (rw [Bool.eq_iff_iff]; simp; omega)
set_option maxHeartbeats 1000000 in
theorem may (w0 : World) (S : List Blk) (x : It) (R : AOut → List Blk → Prop) (h : R (.ret (.bool (itemB x))) S) :
    ACall Tryz.prog w0 42 [x.av] S R := by
  unfold It.av
  refine enter Tryz.func42 rfl (by decide +kernel) (by rw [Tryz.ntmps42]; simp) (by rw [Tryz.ntmps42]; decide) (fun hO => ?_); rw [Tryz.ntmps42]
  repeat' first
    | apply x_seq | apply x_skip | apply x_block | apply x_exit | apply x_ret | apply x_ops_nil | apply p_blk | apply p_exit_it | apply p_exit_hit | apply p_ret_it | apply p_ret_blk | apply p_panic_it | apply p_panic_blk | apply p_end
    | (apply p_exit_miss; (focus rfl))
    | (apply x_region; simp only [List.toList_toArray])
    | (apply x_step0; (focus rfl); (focus (simp only [go_sem, *]; (try rfl); done)); (focus rfl); simp only [putA])
    | (apply x_callA []; (focus (simp only [go_sem, *]; (try rfl); done)); (focus rfl); (focus (simp only [go_sem, *]; (try rfl); done)); (focus rfl); (iterate 2 (focus (simp only [go_sem, *]; (try rfl); done))); (first | (apply within) | (apply size)); simp only [afterCall, putA])
    | (apply x_panic; (focus (simp only [go_sem, *]; (try rfl); done)); (focus rfl); (focus (simp only [go_sem, *]; (try rfl); done)))
    | (apply x_step; (iterate 2 (focus (simp only [go_sem, *]; (try rfl); done))); (focus rfl); simp only [putA])
    | (apply x_unwanted; (focus (simp only [go_sem, *]; (try rfl); done)); (focus rfl); simp only [putA])
    | (apply x_condT; (focus (simp only [go_sem, *]; (try rfl); done)))
    | (apply x_condF; (focus (simp only [go_sem, *]; (try rfl); done)))
    | (apply x_guardS; (focus rfl); (fail_if_success (focus (show _ = some true; (focus (simp only [go_sem, *]; (try rfl); done))))); (focus (simp only [go_sem, *]; (try rfl); done)); all_goals (intro hb; try simp only [Bool.not_eq_true', Bool.not_eq_false'] at hb))
    | (apply x_condS; (focus (simp only [go_sem, *]; (try rfl); done)); all_goals (intro hb; try simp only [Bool.not_eq_true', Bool.not_eq_false'] at hb))
  all_goals (apply f_ret; iterate 7 (focus (simp only [go_sem, *, Tryz.results42]; (try rfl); done)))
  all_goals
    refine cast (congrArg (fun b => R (.ret (.bool b)) S) ?_) h
    unfold itemB
    simp only [beq_iff_eq, beq_eq_false_iff_ne, ne_eq] at *
    simp [*]
    try (rw [Bool.eq_iff_iff]; simp; omega)
end Go.Proofs.YtnndmokndgnidaaGreatDoor
namespace Go.Proofs.YtnndmokndgnidaaGreatDoor
open Go Go.Fen
set_option linter.unusedSimpArgs false
set_option linter.unusedVariables false
attribute [local irreducible] RunX WP ACall AnyP OpA ProtL
set_option maxRecDepth 8000
def idx (p : It → Bool) : List It → Option Nat
  | [] => none
  | x :: l => if p x then some 0 else (idx p l).map (· + 1)
theorem idx_none {p : It → Bool} {l : List It} (h : ∀ x ∈ l, p x = false) : idx p l = none := by
  induction l with
  | nil => rfl
  | cons x l ih => rw [idx, h x (by simp), ih fun y hy => h y (by simp [hy])]; rfl
theorem idx_some {p : It → Bool} : ∀ {l : List It} {i : Nat} {x : It}, (∀ y ∈ l.take i, p y = false) → l[i]? = some x → p x = true → idx p l = some i
  | [], i, x, _, h, _ => by simp at h
  | y :: l, 0, x, _, h, hp => by simp at h; subst h; rw [idx, hp]; rfl
  | y :: l, i + 1, x, h0, h, hp => by
    rw [idx, h0 y (by simp), idx_some (i := i) (fun z hz => h0 z (by simp [hz])) (by simpa using h) hp]; rfl
theorem idx_all (p : It → Bool) (l : List It) : (idx p l).isNone = l.all (fun x => !p x) := by
  induction l with
  | nil => rfl
  | cons x l ih => rw [idx, List.all_cons]; cases p x <;> simp [ih]
def IsP (w0 : World) (S : List Blk) (g : FuncId) (cap : List AV) (p : It → Bool) : Prop :=
  ∀ (x : It) (R : AOut → List Blk → Prop), R (.ret (.bool (p x))) S → ACall Tryz.prog w0 g (x.av :: cap) S R
set_option maxHeartbeats 1000000 in
theorem indexFunc (w0 : World) (S : List Blk) (l : List It) (hm : (l.length : Int) < 9223372036854775807) (g : FuncId) (cap : List AV) (p : It → Bool) (hc : cvL S cap = cap) (hp : IsP w0 S g cap p) (R : AOut → List Blk → Prop)
    (h : R (.ret (.int .i64 (match idx p l with
      | some i => (i : Int)
      | none => -1))) S) : ACall Tryz.prog w0 75 [.sval false (l.map It.av), .fn (.func g) [] cap] S R := by
  refine enter Tryz.func75 rfl (by decide +kernel) (by rw [Tryz.ntmps75]; simp) (by rw [Tryz.ntmps75]; decide) (fun hO => ?_); rw [Tryz.ntmps75]
  repeat' first
    | apply x_seq | apply x_skip | apply x_block | apply x_exit | apply x_ret | apply x_ops_nil | apply p_blk | apply p_exit_it | apply p_exit_hit | apply p_ret_it | apply p_ret_blk | apply p_panic_it | apply p_panic_blk | apply p_end
    | (apply p_exit_miss; (focus rfl))
    | (apply x_region; simp only [List.toList_toArray])
    | (apply x_step0; (focus rfl); (focus (simp only [go_sem, *]; (try rfl); done)); (focus rfl); simp only [putA])
    | (apply x_panic; (focus (simp only [go_sem, *]; (try rfl); done)); (focus rfl); (focus (simp only [go_sem, *]; (try rfl); done)))
    | (apply x_step; (iterate 2 (focus (simp only [go_sem, *]; (try rfl); done))); (focus rfl); simp only [putA])
    | (apply x_unwanted; (focus (simp only [go_sem, *]; (try rfl); done)); (focus rfl); simp only [putA])
    | (apply x_condT; (focus (simp only [go_sem, *]; (try rfl); done)))
    | (apply x_condF; (focus (simp only [go_sem, *]; (try rfl); done)))
    | (apply x_guardS; (focus rfl); (fail_if_success (focus (show _ = some true; (focus (simp only [go_sem, *]; (try rfl); done))))); (focus (simp only [go_sem, *]; (try rfl); done)); all_goals (intro hb; try simp only [Bool.not_eq_true', Bool.not_eq_false'] at hb))
    | (apply x_condS; (focus (simp only [go_sem, *]; (try rfl); done)); all_goals (intro hb; try simp only [Bool.not_eq_true', Bool.not_eq_false'] at hb))
  refine x_ind (fun (i : Nat) env S' => i ≤ l.length ∧ env 1000000 = .dfr [] ∧ env 0 = .sval false (l.map It.av) ∧ env 1 = .fn (.func g) [] cap ∧ env 7 = .int .i64 l.length ∧ env 8 = .int .i64 i ∧ S' = S ∧ ∀ y ∈ l.take i, p y = false) (fun i => l.length - i) 0 ?_ ?_
  · exact ⟨Nat.zero_le _, by (simp only [go_sem, *]; try rfl), by (simp only [go_sem, *]; try rfl), by (simp only [go_sem, *]; try rfl), by (simp only [go_sem, *]; try rfl), by (simp only [go_sem, *]; try rfl), rfl, by simp⟩
  · rintro i env S' ⟨hi, e0, e1, e2, e7, e8, rfl, hall⟩ IH
    have HI := Lib.hid IH
    have Hall := Lib.hid hall
    clear IH hall
    by_cases hlt : i < l.length
    · obtain ⟨x, hx⟩ : ∃ x, l[i]? = some x := ⟨_, List.getElem?_eq_getElem hlt⟩
      have h1 : decide ((i : Int) < (l.length : Int)) = true := by simpa using hlt
      have hw : IntKind.i64.wrap ((i : Int) + 1) = (i : Int) + 1 := IntWalk.i64_in _ (by omega)
      have hpx := hp x
      clear hlt hi hm
      repeat' first
        | apply x_seq | apply x_skip | apply x_block | apply x_exit | apply x_ret | apply x_ops_nil | apply p_blk | apply p_exit_it | apply p_exit_hit | apply p_ret_it | apply p_ret_blk | apply p_panic_it | apply p_panic_blk | apply p_end
        | (apply p_exit_miss; (focus rfl))
        | (apply x_region; simp only [List.toList_toArray])
        | (apply x_step0; (focus rfl); (focus (simp only [go_sem, *, It.av]; (try rfl); done)); (focus rfl); simp only [putA])
        | (apply x_callA []; (focus (simp only [go_sem, *, It.av]; (try rfl); done)); (focus rfl); (focus (simp only [go_sem, *, It.av]; (try rfl); done)); (focus rfl); (iterate 2 (focus (simp only [go_sem, *, It.av]; (try rfl); done))); (first | (apply hpx)); simp only [afterCall, putA])
        | (apply x_panic; (focus (simp only [go_sem, *, It.av]; (try rfl); done)); (focus rfl); (focus (simp only [go_sem, *, It.av]; (try rfl); done)))
        | (apply x_step; (iterate 2 (focus (simp only [go_sem, *, It.av]; (try rfl); done))); (focus rfl); simp only [putA])
        | (apply x_unwanted; (focus (simp only [go_sem, *, It.av]; (try rfl); done)); (focus rfl); simp only [putA])
        | (apply x_condT; (focus (simp only [go_sem, *, It.av]; (try rfl); done)))
        | (apply x_condF; (focus (simp only [go_sem, *, It.av]; (try rfl); done)))
        | (apply x_guardS; (focus rfl); (fail_if_success (focus (show _ = some true; (focus (simp only [go_sem, *, It.av]; (try rfl); done))))); (focus (simp only [go_sem, *, It.av]; (try rfl); done)); all_goals (intro hb; try simp only [Bool.not_eq_true', Bool.not_eq_false'] at hb))
        | (apply x_condS; (focus (simp only [go_sem, *, It.av]; (try rfl); done)); all_goals (intro hb; try simp only [Bool.not_eq_true', Bool.not_eq_false'] at hb))
      · (apply f_ret; iterate 7 (focus (simp only [go_sem, *, Tryz.results75]; (try rfl); done)))
        rw [idx_some Hall.out hx hb] at h
        exact h
      · refine HI.out (i + 1) _ _ ?_ ⟨?_, ?_, ?_, ?_, ?_, ?_, rfl, ?_⟩
        · have := (List.getElem?_eq_some_iff.1 hx).1; omega
        · exact (List.getElem?_eq_some_iff.1 hx).1
        · (simp only [go_sem, *]; try rfl)
        · (simp only [go_sem, *]; try rfl)
        · (simp only [go_sem, *]; try rfl)
        · (simp only [go_sem, *]; try rfl)
        · (simp only [go_sem, *]; try rfl)
        · intro y hy
          rw [List.take_add_one, hx] at hy
          simp only [Option.toList_some, List.mem_append, List.mem_singleton] at hy
          rcases hy with hy | rfl
          · exact Hall.out y hy
          · exact hb
    · have h1 : decide ((i : Int) < (l.length : Int)) = false := by simpa using hlt
      have hn : idx p l = none := idx_none fun y hy => Hall.out y (by rw [List.take_of_length_le (by omega)]; exact hy)
      clear hlt
      repeat' first
        | apply x_seq | apply x_skip | apply x_block | apply x_exit | apply x_ret | apply x_ops_nil | apply p_blk | apply p_exit_it | apply p_exit_hit | apply p_ret_it | apply p_ret_blk | apply p_panic_it | apply p_panic_blk | apply p_end
        | (apply p_exit_miss; (focus rfl))
        | (apply x_region; simp only [List.toList_toArray])
        | (apply x_step0; (focus rfl); (focus (simp only [go_sem, *]; (try rfl); done)); (focus rfl); simp only [putA])
        | (apply x_panic; (focus (simp only [go_sem, *]; (try rfl); done)); (focus rfl); (focus (simp only [go_sem, *]; (try rfl); done)))
        | (apply x_step; (iterate 2 (focus (simp only [go_sem, *]; (try rfl); done))); (focus rfl); simp only [putA])
        | (apply x_unwanted; (focus (simp only [go_sem, *]; (try rfl); done)); (focus rfl); simp only [putA])
        | (apply x_condT; (focus (simp only [go_sem, *]; (try rfl); done)))
        | (apply x_condF; (focus (simp only [go_sem, *]; (try rfl); done)))
        | (apply x_guardS; (focus rfl); (fail_if_success (focus (show _ = some true; (focus (simp only [go_sem, *]; (try rfl); done))))); (focus (simp only [go_sem, *]; (try rfl); done)); all_goals (intro hb; try simp only [Bool.not_eq_true', Bool.not_eq_false'] at hb))
        | (apply x_condS; (focus (simp only [go_sem, *]; (try rfl); done)); all_goals (intro hb; try simp only [Bool.not_eq_true', Bool.not_eq_false'] at hb))
      (apply f_ret; iterate 7 (focus (simp only [go_sem, *, Tryz.results75]; (try rfl); done)))
      rw [hn] at h
      exact h
set_option maxHeartbeats 400000 in
theorem containsFunc (w0 : World) (S : List Blk) (l : List It) (hm : (l.length : Int) < 9223372036854775807) (g : FuncId) (a : Nat) (c0 : List AV) (ha : S[a]? = some (.cells c0)) (p : It → Bool) (hp : IsP w0 S g [.own a 0] p) (R : AOut → List Blk → Prop)
    (h : R (.ret (.bool (l.any p))) S) : ACall Tryz.prog w0 62 [.sval false (l.map It.av), .fn (.func g) [] [.own a 0]] S R := by
  have hI := indexFunc w0 S l hm g [.own a 0] p (by (simp only [go_sem, *]; try rfl)) hp
  have hany : l.any p = decide (0 ≤ (match idx p l with
      | some i => (i : Int)
      | none => -1)) := by
    have := idx_all p l
    have e : l.any p = !(l.all fun x => !p x) := by rw [List.all_eq_not_any_not]; simp
    rw [e, ← this]
    cases idx p l <;> simp
  generalize (match idx p l with
      | some i => (i : Int)
      | none => -1) = n at hI hany
  refine enter Tryz.func62 rfl (by decide +kernel) (by rw [Tryz.ntmps62]; simp) (by rw [Tryz.ntmps62]; decide) (fun hO => ?_); rw [Tryz.ntmps62]
  repeat' first
    | apply x_seq | apply x_skip | apply x_block | apply x_exit | apply x_ret | apply x_ops_nil | apply p_blk | apply p_exit_it | apply p_exit_hit | apply p_ret_it | apply p_ret_blk | apply p_panic_it | apply p_panic_blk | apply p_end
    | (apply p_exit_miss; (focus rfl))
    | (apply x_region; simp only [List.toList_toArray])
    | (apply x_step0; (focus rfl); (focus (simp only [go_sem, *]; (try rfl); done)); (focus rfl); simp only [putA])
    | (apply x_callA []; (focus (simp only [go_sem, *]; (try rfl); done)); (focus rfl); (focus (simp only [go_sem, *]; (try rfl); done)); (focus rfl); (iterate 2 (focus (simp only [go_sem, *]; (try rfl); done))); (first | (apply hI)); simp only [afterCall, putA])
    | (apply x_panic; (focus (simp only [go_sem, *]; (try rfl); done)); (focus rfl); (focus (simp only [go_sem, *]; (try rfl); done)))
    | (apply x_step; (iterate 2 (focus (simp only [go_sem, *]; (try rfl); done))); (focus rfl); simp only [putA])
    | (apply x_unwanted; (focus (simp only [go_sem, *]; (try rfl); done)); (focus rfl); simp only [putA])
    | (apply x_condT; (focus (simp only [go_sem, *]; (try rfl); done)))
    | (apply x_condF; (focus (simp only [go_sem, *]; (try rfl); done)))
    | (apply x_guardS; (focus rfl); (fail_if_success (focus (show _ = some true; (focus (simp only [go_sem, *]; (try rfl); done))))); (focus (simp only [go_sem, *]; (try rfl); done)); all_goals (intro hb; try simp only [Bool.not_eq_true', Bool.not_eq_false'] at hb))
    | (apply x_condS; (focus (simp only [go_sem, *]; (try rfl); done)); all_goals (intro hb; try simp only [Bool.not_eq_true', Bool.not_eq_false'] at hb))
  (apply f_ret; iterate 7 (focus (simp only [go_sem, *, Tryz.results62]; (try rfl); done)))
  rw [hany] at h
  exact h
set_option maxHeartbeats 400000 in
theorem isMay (w0 : World) (S : List Blk) (a : Nat) (ha : S[a]? = some (.cells [.fn (.func 42) [] []])) : IsP w0 S 63 [.own a 0] (fun x => !itemB x) := by
  intro x R h
  unfold It.av
  have ha' : a < S.length := (List.getElem?_eq_some_iff.1 ha).1
  have ha2 : (S ++ [Blk.cells [AV.int .i64 x.wait, AV.int .i64 x.kind, AV.int .i64 x.cols, AV.int .i64 x.rows, AV.str x.text]])[a]? = some (.cells [.fn (.func 42) [] []]) := by rw [List.getElem?_append_left ha']; exact ha
  refine enter Tryz.func63 rfl (by decide +kernel) (by rw [Tryz.ntmps63]; simp) (by rw [Tryz.ntmps63]; decide) (fun hO => ?_); rw [Tryz.ntmps63]
  repeat' first
    | apply x_seq | apply x_skip | apply x_block | apply x_exit | apply x_ret | apply x_ops_nil | apply p_blk | apply p_exit_it | apply p_exit_hit | apply p_ret_it | apply p_ret_blk | apply p_panic_it | apply p_panic_blk | apply p_end
    | (apply p_exit_miss; (focus rfl))
    | (apply x_region; simp only [List.toList_toArray])
    | (apply x_step0; (focus rfl); (focus (simp only [go_sem, *, It.av]; (try rfl); done)); (focus rfl); simp only [putA])
    | (apply x_callA []; (focus (simp only [go_sem, *, It.av]; (try rfl); done)); (focus rfl); (focus (simp only [go_sem, *, It.av]; (try rfl); done)); (focus rfl); (iterate 2 (focus (simp only [go_sem, *, It.av]; (try rfl); done))); (first | (apply may)); simp only [afterCall, putA])
    | (apply x_panic; (focus (simp only [go_sem, *, It.av]; (try rfl); done)); (focus rfl); (focus (simp only [go_sem, *, It.av]; (try rfl); done)))
    | (apply x_step; (iterate 2 (focus (simp only [go_sem, *, It.av]; (try rfl); done))); (focus rfl); simp only [putA])
    | (apply x_unwanted; (focus (simp only [go_sem, *, It.av]; (try rfl); done)); (focus rfl); simp only [putA])
    | (apply x_condT; (focus (simp only [go_sem, *, It.av]; (try rfl); done)))
    | (apply x_condF; (focus (simp only [go_sem, *, It.av]; (try rfl); done)))
    | (apply x_guardS; (focus rfl); (fail_if_success (focus (show _ = some true; (focus (simp only [go_sem, *, It.av]; (try rfl); done))))); (focus (simp only [go_sem, *, It.av]; (try rfl); done)); all_goals (intro hb; try simp only [Bool.not_eq_true', Bool.not_eq_false'] at hb))
    | (apply x_condS; (focus (simp only [go_sem, *, It.av]; (try rfl); done)); all_goals (intro hb; try simp only [Bool.not_eq_true', Bool.not_eq_false'] at hb))
  (apply f_ret; iterate 7 (focus (simp only [go_sem, *, Tryz.results63]; (try rfl); done)))
  exact h
set_option maxHeartbeats 400000 in
theorem all (w0 : World) (S : List Blk) (l : List It) (hm : (l.length : Int) < 9223372036854775807) (R : AOut → List Blk → Prop)
    (h : R (.ret (.bool (l.all itemB))) S) : ACall Tryz.prog w0 41 [.sval false (l.map It.av), .fn (.func 42) [] []] S R := by
  have hp := isMay w0 (S ++ [Blk.cells [.fn (.func 42) [] []]]) S.length (by simp)
  have hI := containsFunc w0 _ l hm _ _ [.fn (.func 42) [] []] (by simp) _ hp
  have hany : (l.any fun x => !itemB x) = !(l.all itemB) := by rw [List.all_eq_not_any_not]; simp
  rw [hany] at hI
  refine enter Tryz.func41 rfl (by decide +kernel) (by rw [Tryz.ntmps41]; simp) (by rw [Tryz.ntmps41]; decide) (fun hO => ?_); rw [Tryz.ntmps41]
  repeat' first
    | apply x_seq | apply x_skip | apply x_block | apply x_exit | apply x_ret | apply x_ops_nil | apply p_blk | apply p_exit_it | apply p_exit_hit | apply p_ret_it | apply p_ret_blk | apply p_panic_it | apply p_panic_blk | apply p_end
    | (apply p_exit_miss; (focus rfl))
    | (apply x_region; simp only [List.toList_toArray])
    | (apply x_step0; (focus rfl); (focus (simp only [go_sem, *]; (try rfl); done)); (focus rfl); simp only [putA])
    | (apply x_callA []; (focus (simp only [go_sem, *]; (try rfl); done)); (focus rfl); (focus (simp only [go_sem, *]; (try rfl); done)); (focus rfl); (iterate 2 (focus (simp only [go_sem, *]; (try rfl); done))); (first | (apply hI)); simp only [afterCall, putA])
    | (apply x_panic; (focus (simp only [go_sem, *]; (try rfl); done)); (focus rfl); (focus (simp only [go_sem, *]; (try rfl); done)))
    | (apply x_step; (iterate 2 (focus (simp only [go_sem, *]; (try rfl); done))); (focus rfl); simp only [putA])
    | (apply x_unwanted; (focus (simp only [go_sem, *]; (try rfl); done)); (focus rfl); simp only [putA])
    | (apply x_condT; (focus (simp only [go_sem, *]; (try rfl); done)))
    | (apply x_condF; (focus (simp only [go_sem, *]; (try rfl); done)))
    | (apply x_guardS; (focus rfl); (fail_if_success (focus (show _ = some true; (focus (simp only [go_sem, *]; (try rfl); done))))); (focus (simp only [go_sem, *]; (try rfl); done)); all_goals (intro hb; try simp only [Bool.not_eq_true', Bool.not_eq_false'] at hb))
    | (apply x_condS; (focus (simp only [go_sem, *]; (try rfl); done)); all_goals (intro hb; try simp only [Bool.not_eq_true', Bool.not_eq_false'] at hb))
  (apply f_ret; iterate 7 (focus (simp only [go_sem, *, Tryz.results41]; (try rfl); done)))
  simpa using h
set_option maxHeartbeats 1000000 in
theorem check (w0 : World) (S : List Blk) (r : Rec) (hm : (r.items.length : Int) < 9223372036854775807) (R : AOut → List Blk → Prop) (h : R (.ret (.int .i64 (if checkB r then 0 else 520))) S) :
    ACall Tryz.prog w0 13 [r.av] S R := by
  have hI := fun S' => all w0 S' r.items hm
  unfold Rec.av
  refine enter Tryz.func13 rfl (by decide +kernel) (by rw [Tryz.ntmps13]; simp) (by rw [Tryz.ntmps13]; decide) (fun hO => ?_); rw [Tryz.ntmps13]
  repeat' first
    | apply x_seq | apply x_skip | apply x_block | apply x_exit | apply x_ret | apply x_ops_nil | apply p_blk | apply p_exit_it | apply p_exit_hit | apply p_ret_it | apply p_ret_blk | apply p_panic_it | apply p_panic_blk | apply p_end
    | (apply p_exit_miss; (focus rfl))
    | (apply x_region; simp only [List.toList_toArray])
    | (apply x_step0; (focus rfl); (focus (simp only [go_sem, *]; (try rfl); done)); (focus rfl); simp only [putA])
    | (apply x_callA []; (focus (simp only [go_sem, *]; (try rfl); done)); (focus rfl); (focus (simp only [go_sem, *]; (try rfl); done)); (focus rfl); (iterate 2 (focus (simp only [go_sem, *]; (try rfl); done))); (first | (apply size) | (apply hI)); simp only [afterCall, putA])
    | (apply x_panic; (focus (simp only [go_sem, *]; (try rfl); done)); (focus rfl); (focus (simp only [go_sem, *]; (try rfl); done)))
    | (apply x_step; (iterate 2 (focus (simp only [go_sem, *]; (try rfl); done))); (focus rfl); simp only [putA])
    | (apply x_unwanted; (focus (simp only [go_sem, *]; (try rfl); done)); (focus rfl); simp only [putA])
    | (apply x_condT; (focus (simp only [go_sem, *]; (try rfl); done)))
    | (apply x_condF; (focus (simp only [go_sem, *]; (try rfl); done)))
    | (apply x_guardS; (focus rfl); (fail_if_success (focus (show _ = some true; (focus (simp only [go_sem, *]; (try rfl); done))))); (focus (simp only [go_sem, *]; (try rfl); done)); all_goals (intro hb; try simp only [Bool.not_eq_true', Bool.not_eq_false'] at hb))
    | (apply x_condS; (focus (simp only [go_sem, *]; (try rfl); done)); all_goals (intro hb; try simp only [Bool.not_eq_true', Bool.not_eq_false'] at hb))
  all_goals (apply f_ret; iterate 7 (focus (simp only [go_sem, *, Tryz.results13]; (try rfl); done)))
  all_goals
    refine cast (congrArg (fun b => R (.ret (.int .i64 b)) S) ?_) h
    unfold checkB
    first
    | (simp [*]; done)
    | (simp at *; simp [*]; done)
    | (have h9 : decide (r.items.length ≤ 1000) = true := by
         simp only [decide_eq_false_iff_not, decide_eq_true_eq] at *
         omega
       simp only [*, Bool.and_true, Bool.and_false, Bool.true_and, Bool.false_and, if_true, if_false, Bool.false_eq_true])
    | (have h9 : decide (r.items.length ≤ 1000) = false := by
         simp only [decide_eq_false_iff_not, decide_eq_true_eq] at *
         omega
       simp only [*, Bool.and_true, Bool.and_false, Bool.true_and, Bool.false_and, if_true, if_false, Bool.false_eq_true])
end Go.Proofs.YtnndmokndgnidaaGreatDoor
namespace Go.Proofs.YtnndmokndgnidaaGreatDoor
open Go Go.Fen
set_option linter.unusedSimpArgs false
set_option linter.unusedVariables false
attribute [local irreducible] RunX WP ACall AnyP OpA ProtL
set_option maxRecDepth 8000
def tmz (l : List It) (k : Nat) : Int := ((l.take k).map It.wait).sum
theorem tmz_succ {l : List It} {k : Nat} {x : It} (h : l[k]? = some x) : tmz l (k + 1) = tmz l k + x.wait := by
  unfold tmz
  rw [List.take_add_one, h]
  simp
theorem tmz_bd {l : List It} (h : ∀ x ∈ l, 0 ≤ x.wait ∧ x.wait ≤ 1000000) : ∀ k, 0 ≤ tmz l k ∧ tmz l k ≤ 1000000 * (min k l.length : Nat) := by
  intro k
  induction k with
  | zero => simp [tmz]
  | succ k ih =>
    by_cases hk : k < l.length
    · have hx : l[k]? = some l[k] := List.getElem?_eq_getElem hk
      rw [tmz_succ hx]
      have := h l[k] (List.getElem_mem hk)
      omega
    · unfold tmz at ih ⊢
      rw [List.take_of_length_le (by omega)] at ih ⊢
      omega
def Waits (l : List It) : Prop := l.length ≤ 1000 ∧ ∀ x ∈ l, 0 ≤ x.wait ∧ x.wait ≤ 1000000
theorem waits_of {r : Rec} (h : checkB r = true) : Waits r.items := by
  unfold checkB at h
  simp only [Bool.and_eq_true, decide_eq_true_eq, List.all_eq_true] at h
  refine ⟨h.1.2, fun x hx => ?_⟩
  have := h.2 x hx
  unfold itemB at this
  simp only [Bool.and_eq_true, decide_eq_true_eq] at this
  exact this.1
def timedV (r : Rec) : AV := .fn (.func 61) [] [.pro [.int .i64 r.cols, .int .i64 r.rows, .sval false (r.items.map It.av)]]
set_option maxHeartbeats 400000 in
theorem timed (w0 : World) (S : List Blk) (r : Rec) (R : AOut → List Blk → Prop) (h : R (.ret (timedV r)) S) : ACall Tryz.prog w0 38 [r.av] S R := by
  unfold Rec.av
  refine enter Tryz.func38 rfl (by decide +kernel) (by rw [Tryz.ntmps38]; simp) (by rw [Tryz.ntmps38]; decide) (fun hO => ?_); rw [Tryz.ntmps38]
  repeat' first
    | apply x_seq | apply x_skip | apply x_block | apply x_exit | apply x_ret | apply x_ops_nil | apply p_blk | apply p_exit_it | apply p_exit_hit | apply p_ret_it | apply p_ret_blk | apply p_panic_it | apply p_panic_blk | apply p_end
    | (apply p_exit_miss; (focus rfl))
    | (apply x_region; simp only [List.toList_toArray])
    | (apply x_step0; (focus rfl); (focus (simp only [go_sem, *]; (try rfl); done)); (focus rfl); simp only [putA])
    | (apply x_panic; (focus (simp only [go_sem, *]; (try rfl); done)); (focus rfl); (focus (simp only [go_sem, *]; (try rfl); done)))
    | (apply x_step; (iterate 2 (focus (simp only [go_sem, *]; (try rfl); done))); (focus rfl); simp only [putA])
    | (apply x_unwanted; (focus (simp only [go_sem, *]; (try rfl); done)); (focus rfl); simp only [putA])
    | (apply x_condT; (focus (simp only [go_sem, *]; (try rfl); done)))
    | (apply x_condF; (focus (simp only [go_sem, *]; (try rfl); done)))
    | (apply x_guardS; (focus rfl); (fail_if_success (focus (show _ = some true; (focus (simp only [go_sem, *]; (try rfl); done))))); (focus (simp only [go_sem, *]; (try rfl); done)); all_goals (intro hb; try simp only [Bool.not_eq_true', Bool.not_eq_false'] at hb))
    | (apply x_condS; (focus (simp only [go_sem, *]; (try rfl); done)); all_goals (intro hb; try simp only [Bool.not_eq_true', Bool.not_eq_false'] at hb))
  (apply f_ret; iterate 7 (focus (simp only [go_sem, *, Tryz.results38]; (try rfl); done)))
  exact h
set_option maxHeartbeats 1000000 in
theorem timed1 (w0 : World) (r : Rec) (hw : Waits r.items) (a n : Nat) (ha : decide (a < n) = true) (I J : Nat → List Blk → Prop) (hI : ∀ k S, I k S → S.length = n ∧ OuterOk S) (hJ : ∀ k S, J k S → S.length = n ∧ OuterOk S)
    (hround : ∀ k S x, I k S → r.items[k]? = some x → ∀ (E : List Blk) (R' : AOut → List Blk → Prop), (∀ S2 E2, I (k + 1) S2 → R' (.ret (.bool true)) (S2 ++ (E ++ E2))) → (∀ S2 E2, J k S2 → R' (.ret (.bool false)) (S2 ++ (E ++ E2))) →
      YA Tryz.prog w0 a [.int .i64 (tmz r.items (k + 1)), x.av] (S ++ E) R')
    (S : List Blk) (h0 : I 0 S) (R : AOut → List Blk → Prop) (h : ∀ S', I r.items.length S' → R (.ret (.tup [])) S') (h' : ∀ k S', J k S' → R (.ret (.tup [])) S') :
    ACall Tryz.prog w0 61 [.yld a, .pro [.int .i64 r.cols, .int .i64 r.rows, .sval false (r.items.map It.av)]] S R := by
  have hn := (hI _ _ h0).1
  refine enter Tryz.func61 rfl (by decide +kernel) (by rw [Tryz.ntmps61]; simp) (by rw [Tryz.ntmps61]; decide) (fun hO => ?_); rw [Tryz.ntmps61]
  repeat' first
    | apply x_seq | apply x_skip | apply x_block | apply x_exit | apply x_ret | apply x_ops_nil | apply p_blk | apply p_exit_it | apply p_exit_hit | apply p_ret_it | apply p_ret_blk | apply p_panic_it | apply p_panic_blk | apply p_end
    | (apply p_exit_miss; (focus rfl))
    | (apply x_region; simp only [List.toList_toArray])
    | (apply x_step0; (focus rfl); (focus (simp only [go_sem, *]; (try rfl); done)); (focus rfl); simp only [putA])
    | (apply x_panic; (focus (simp only [go_sem, *]; (try rfl); done)); (focus rfl); (focus (simp only [go_sem, *]; (try rfl); done)))
    | (apply x_step; (iterate 2 (focus (simp only [go_sem, *]; (try rfl); done))); (focus rfl); simp only [putA])
    | (apply x_unwanted; (focus (simp only [go_sem, *]; (try rfl); done)); (focus rfl); simp only [putA])
    | (apply x_condT; (focus (simp only [go_sem, *]; (try rfl); done)))
    | (apply x_condF; (focus (simp only [go_sem, *]; (try rfl); done)))
    | (apply x_guardS; (focus rfl); (fail_if_success (focus (show _ = some true; (focus (simp only [go_sem, *]; (try rfl); done))))); (focus (simp only [go_sem, *]; (try rfl); done)); all_goals (intro hb; try simp only [Bool.not_eq_true', Bool.not_eq_false'] at hb))
    | (apply x_condS; (focus (simp only [go_sem, *]; (try rfl); done)); all_goals (intro hb; try simp only [Bool.not_eq_true', Bool.not_eq_false'] at hb))
  refine x_ind (fun (i : Nat) env S' => i ≤ r.items.length ∧ env 1000000 = .dfr [] ∧ env 0 = .yld a ∧ env 3 = .int .i64 (tmz r.items i) ∧ env 7 = .sval false (r.items.map It.av) ∧ env 8 = .int .i64 r.items.length ∧ env 9 = .int .i64 i ∧ I i S') (fun i => r.items.length - i) 0 ?_ ?_
  · exact ⟨Nat.zero_le _, by (simp only [go_sem, *]; try rfl), by (simp only [go_sem, *]; try rfl), by (simp only [go_sem, *, tmz, List.take_zero, List.map_nil, List.sum_nil]; try rfl), by (simp only [go_sem, *]; try rfl), by (simp only [go_sem, *]; try rfl), by (simp only [go_sem, *]; try rfl), h0⟩
  · rintro i env S' ⟨hi, e0, ey, e3, e7, e8, e9, hIi⟩ IH
    have HI := Lib.hid IH
    have Hw := Lib.hid hw
    have HIi := Lib.hid hIi
    have Hn := Lib.hid hn
    clear IH hw hIi hn
    by_cases hlt : i < r.items.length
    · obtain ⟨x, hx⟩ : ∃ x, r.items[i]? = some x := ⟨_, List.getElem?_eq_getElem hlt⟩
      have h1 : decide ((i : Int) < (r.items.length : Int)) = true := by simpa using hlt
      have hb := tmz_bd Hw.out.2 (i + 1)
      have hl := Hw.out.1
      have hs := tmz_succ hx
      have hw1 : IntKind.i64.wrap (tmz r.items i + x.wait) = tmz r.items (i + 1) := by rw [← hs]; exact IntWalk.i64_in _ (by omega)
      have hw : IntKind.i64.wrap ((i : Int) + 1) = (i : Int) + 1 := IntWalk.i64_in _ (by omega)
      clear hlt hi hb hl hs
      repeat' first
        | apply x_seq | apply x_skip | apply x_block | apply x_exit | apply x_ret | apply x_ops_nil | apply p_blk | apply p_exit_it | apply p_exit_hit | apply p_ret_it | apply p_ret_blk | apply p_panic_it | apply p_panic_blk | apply p_end
        | (apply p_exit_miss; (focus rfl))
        | (apply x_region; simp only [List.toList_toArray])
        | (apply x_step0; (focus rfl); (focus (simp only [go_sem, *, It.av]; (try rfl); done)); (focus rfl); simp only [putA])
        | (apply x_panic; (focus (simp only [go_sem, *, It.av]; (try rfl); done)); (focus rfl); (focus (simp only [go_sem, *, It.av]; (try rfl); done)))
        | (apply x_step; (iterate 2 (focus (simp only [go_sem, *, It.av]; (try rfl); done))); (focus rfl); simp only [putA])
        | (apply x_unwanted; (focus (simp only [go_sem, *, It.av]; (try rfl); done)); (focus rfl); simp only [putA])
        | (apply x_condT; (focus (simp only [go_sem, *, It.av]; (try rfl); done)))
        | (apply x_condF; (focus (simp only [go_sem, *, It.av]; (try rfl); done)))
        | (apply x_guardS; (focus rfl); (fail_if_success (focus (show _ = some true; (focus (simp only [go_sem, *, It.av]; (try rfl); done))))); (focus (simp only [go_sem, *, It.av]; (try rfl); done)); all_goals (intro hb; try simp only [Bool.not_eq_true', Bool.not_eq_false'] at hb))
        | (apply x_condS; (focus (simp only [go_sem, *, It.av]; (try rfl); done)); all_goals (intro hb; try simp only [Bool.not_eq_true', Bool.not_eq_false'] at hb))
      apply x_yield
      · (simp only [go_sem, *]; try rfl)
      · rfl
      · (simp only [go_sem, *]; try rfl)
      · rfl
      · (simp only [go_sem, *]; try rfl)
      refine hround i S' x HIi.out hx _ _ ?_ ?_
      · intro S2 E2 hI2
        have hO2 := hI _ _ hI2
        simp only [afterCall, putA]
        repeat' first
          | apply x_seq | apply x_skip | apply x_block | apply x_exit | apply x_ret | apply x_ops_nil | apply p_blk | apply p_exit_it | apply p_exit_hit | apply p_ret_it | apply p_ret_blk | apply p_panic_it | apply p_panic_blk | apply p_end
          | (apply p_exit_miss; (focus rfl))
          | (apply x_region; simp only [List.toList_toArray])
          | (apply x_step0; (focus rfl); (focus (simp only [go_sem, *]; (try rfl); done)); (focus rfl); simp only [putA])
          | (apply x_panic; (focus (simp only [go_sem, *]; (try rfl); done)); (focus rfl); (focus (simp only [go_sem, *]; (try rfl); done)))
          | (apply x_step; (iterate 2 (focus (simp only [go_sem, *]; (try rfl); done))); (focus rfl); simp only [putA])
          | (apply x_unwanted; (focus (simp only [go_sem, *]; (try rfl); done)); (focus rfl); simp only [putA])
          | (apply x_condT; (focus (simp only [go_sem, *]; (try rfl); done)))
          | (apply x_condF; (focus (simp only [go_sem, *]; (try rfl); done)))
          | (apply x_guardS; (focus rfl); (fail_if_success (focus (show _ = some true; (focus (simp only [go_sem, *]; (try rfl); done))))); (focus (simp only [go_sem, *]; (try rfl); done)); all_goals (intro hb; try simp only [Bool.not_eq_true', Bool.not_eq_false'] at hb))
          | (apply x_condS; (focus (simp only [go_sem, *]; (try rfl); done)); all_goals (intro hb; try simp only [Bool.not_eq_true', Bool.not_eq_false'] at hb))
        refine x_keepO hO2.2 0 [0, 3, 7, 8, 9] (Hn.out.trans hO2.1.symm) (by (simp only [go_sem, *]; try rfl)) (by (simp only [go_sem, *]; try rfl)) (by (simp only [go_sem, *]; try rfl)) ?_
        refine HI.out (i + 1) _ _ ?_ ⟨?_, ?_, ?_, ?_, ?_, ?_, ?_, ?_⟩
        · have := (List.getElem?_eq_some_iff.1 hx).1; omega
        · exact (List.getElem?_eq_some_iff.1 hx).1
        · (simp only [go_sem, *]; try rfl)
        · (simp only [go_sem, *]; try rfl)
        · (simp only [go_sem, *]; try rfl)
        · (simp only [go_sem, *]; try rfl)
        · (simp only [go_sem, *]; try rfl)
        · (simp only [go_sem, *]; try rfl)
        · simpa using hI2
      · intro S2 E2 hJ2
        have hO2 := hJ _ _ hJ2
        simp only [afterCall, putA]
        repeat' first
          | apply x_seq | apply x_skip | apply x_block | apply x_exit | apply x_ret | apply x_ops_nil | apply p_blk | apply p_exit_it | apply p_exit_hit | apply p_ret_it | apply p_ret_blk | apply p_panic_it | apply p_panic_blk | apply p_end
          | (apply p_exit_miss; (focus rfl))
          | (apply x_region; simp only [List.toList_toArray])
          | (apply x_step0; (focus rfl); (focus (simp only [go_sem, *]; (try rfl); done)); (focus rfl); simp only [putA])
          | (apply x_panic; (focus (simp only [go_sem, *]; (try rfl); done)); (focus rfl); (focus (simp only [go_sem, *]; (try rfl); done)))
          | (apply x_step; (iterate 2 (focus (simp only [go_sem, *]; (try rfl); done))); (focus rfl); simp only [putA])
          | (apply x_unwanted; (focus (simp only [go_sem, *]; (try rfl); done)); (focus rfl); simp only [putA])
          | (apply x_condT; (focus (simp only [go_sem, *]; (try rfl); done)))
          | (apply x_condF; (focus (simp only [go_sem, *]; (try rfl); done)))
          | (apply x_guardS; (focus rfl); (fail_if_success (focus (show _ = some true; (focus (simp only [go_sem, *]; (try rfl); done))))); (focus (simp only [go_sem, *]; (try rfl); done)); all_goals (intro hb; try simp only [Bool.not_eq_true', Bool.not_eq_false'] at hb))
          | (apply x_condS; (focus (simp only [go_sem, *]; (try rfl); done)); all_goals (intro hb; try simp only [Bool.not_eq_true', Bool.not_eq_false'] at hb))
        refine f_retO (S2 := S2) (by (simp only [go_sem, *]; try rfl)) (by (simp only [go_sem, *]; try rfl)) (hO2.1.trans Hn.out.symm) hO2.2 (by (simp only [go_sem, *, Tryz.results61]; try rfl)) (by (simp only [go_sem, *]; try rfl)) (by (simp only [go_sem, *]; try rfl)) ?_
        exact h' _ _ hJ2
    · have h1 : decide ((i : Int) < (r.items.length : Int)) = false := by simpa using hlt
      have Hii := Lib.hid (show i = r.items.length by omega)
      clear hlt
      repeat' first
        | apply x_seq | apply x_skip | apply x_block | apply x_exit | apply x_ret | apply x_ops_nil | apply p_blk | apply p_exit_it | apply p_exit_hit | apply p_ret_it | apply p_ret_blk | apply p_panic_it | apply p_panic_blk | apply p_end
        | (apply p_exit_miss; (focus rfl))
        | (apply x_region; simp only [List.toList_toArray])
        | (apply x_step0; (focus rfl); (focus (simp only [go_sem, *]; (try rfl); done)); (focus rfl); simp only [putA])
        | (apply x_panic; (focus (simp only [go_sem, *]; (try rfl); done)); (focus rfl); (focus (simp only [go_sem, *]; (try rfl); done)))
        | (apply x_step; (iterate 2 (focus (simp only [go_sem, *]; (try rfl); done))); (focus rfl); simp only [putA])
        | (apply x_unwanted; (focus (simp only [go_sem, *]; (try rfl); done)); (focus rfl); simp only [putA])
        | (apply x_condT; (focus (simp only [go_sem, *]; (try rfl); done)))
        | (apply x_condF; (focus (simp only [go_sem, *]; (try rfl); done)))
        | (apply x_guardS; (focus rfl); (fail_if_success (focus (show _ = some true; (focus (simp only [go_sem, *]; (try rfl); done))))); (focus (simp only [go_sem, *]; (try rfl); done)); all_goals (intro hb; try simp only [Bool.not_eq_true', Bool.not_eq_false'] at hb))
        | (apply x_condS; (focus (simp only [go_sem, *]; (try rfl); done)); all_goals (intro hb; try simp only [Bool.not_eq_true', Bool.not_eq_false'] at hb))
      have hO2 := hI _ _ HIi.out
      apply f_endO (S2 := S') (L := [])
      · (simp only [go_sem, *]; try rfl)
      · (simp only [go_sem, *]; try rfl)
      · exact hO2.1.trans Hn.out.symm
      · exact hO2.2
      · (simp only [go_sem, *, Tryz.results61]; try rfl)
      · (simp only [go_sem, *]; try rfl)
      · (simp only [go_sem, *]; try rfl)
      · exact h _ (Hii.out ▸ HIi.out)
end Go.Proofs.YtnndmokndgnidaaGreatDoor
namespace Go.Proofs.YtnndmokndgnidaaGreatDoor
open Go Go.Fen
set_option linter.unusedSimpArgs false
set_option linter.unusedVariables false
attribute [local irreducible] RunX WP ACall AnyP OpA ProtL
set_option maxRecDepth 8000
def setW (l : List It) (f : Nat → Int) : List It := l.mapIdx fun i x => { x with wait := f i }
theorem setW_len (l : List It) (f : Nat → Int) : (setW l f).length = l.length := by simp [setW]
theorem setW_succ {l : List It} {f : Nat → Int} {k : Nat} {x : It} (h : l[k]? = some x) : (setW l f).take (k + 1) = (setW l f).take k ++ [{ x with wait := f k }] := by
  rw [List.take_add_one]
  simp [setW, h]
def IsW (w0 : World) (r : Rec) (g : FuncId) (cap : List AV) (f : Nat → Int) (K : Nat → List Blk → Prop) : Prop :=
  ∀ (k : Nat) (S : List Blk) (x : It), K k S → r.items[k]? = some x → ∀ (E : List Blk) (R : AOut → List Blk → Prop), (∀ S2, K (k + 1) S2 → R (.ret (.int .i64 (f k))) (S2 ++ E)) →
    ACall Tryz.prog w0 g (.int .i64 (tmz r.items (k + 1)) :: .int .i64 x.wait :: cap) (S ++ E) R
set_option maxHeartbeats 2000000 in
theorem waiting (w0 : World) (r : Rec) (hw : Waits r.items) (g : FuncId) (cap : List AV) (f : Nat → Int) (n : Nat) (K : Nat → List Blk → Prop) (hK : ∀ k S, K k S → S.length = n ∧ OuterOk S) (hcap : ∀ k S E, K k S → cvL (S ++ E) cap = cap) (hlt : ltL n cap = true)
    (hto : IsW w0 r g cap f K) (S : List Blk) (h0 : K 0 S) (R : AOut → List Blk → Prop) (h : ∀ S', K r.items.length S' → R (.ret (Rec.av { r with items := setW r.items f })) S') :
    ACall Tryz.prog w0 56 [r.av, .fn (.func g) [] cap] S R := by
  have hn := Lib.hid (hK _ _ h0).1
  unfold Rec.av
  refine enter Tryz.func56 rfl (by decide +kernel) (by rw [Tryz.ntmps56]; simp) (by rw [Tryz.ntmps56]; decide) (fun hO => ?_); rw [Tryz.ntmps56]
  repeat' first
    | apply x_seq | apply x_skip | apply x_block | apply x_exit | apply x_ret | apply x_ops_nil | apply p_blk | apply p_exit_it | apply p_exit_hit | apply p_ret_it | apply p_ret_blk | apply p_panic_it | apply p_panic_blk | apply p_end
    | (apply p_exit_miss; (focus rfl))
    | (apply x_region; simp only [List.toList_toArray])
    | (apply x_step0; (focus rfl); (focus (simp only [go_sem, *]; (try rfl); done)); (focus rfl); simp only [putA])
    | (apply x_callA []; (focus (simp only [go_sem, *]; (try rfl); done)); (focus rfl); (focus (simp only [go_sem, *]; (try rfl); done)); (focus rfl); (iterate 2 (focus (simp only [go_sem, *]; (try rfl); done))); (first | (apply timed)); simp only [afterCall, putA])
    | (apply x_panic; (focus (simp only [go_sem, *]; (try rfl); done)); (focus rfl); (focus (simp only [go_sem, *]; (try rfl); done)))
    | (apply x_step; (iterate 2 (focus (simp only [go_sem, *]; (try rfl); done))); (focus rfl); simp only [putA])
    | (apply x_unwanted; (focus (simp only [go_sem, *]; (try rfl); done)); (focus rfl); simp only [putA])
    | (apply x_condT; (focus (simp only [go_sem, *]; (try rfl); done)))
    | (apply x_condF; (focus (simp only [go_sem, *]; (try rfl); done)))
    | (apply x_guardS; (focus rfl); (fail_if_success (focus (show _ = some true; (focus (simp only [go_sem, *]; (try rfl); done))))); (focus (simp only [go_sem, *]; (try rfl); done)); all_goals (intro hb; try simp only [Bool.not_eq_true', Bool.not_eq_false'] at hb))
    | (apply x_condS; (focus (simp only [go_sem, *]; (try rfl); done)); all_goals (intro hb; try simp only [Bool.not_eq_true', Bool.not_eq_false'] at hb))
  refine x_thawC (a := S.length + 3) (j := 2) 29 5 (by (simp only [go_sem, *]; try rfl)) (by (simp only [go_sem, *]; try rfl)) (by decide) ?_
  simp only [go_sem, *]
  apply x_rangeL [3, 5]
  · (simp only [go_sem, *, timedV]; try rfl)
  · (simp only [go_sem, *]; try rfl)
  · rfl
  · (simp only [go_sem, *]; try rfl)
  · (simp only [go_sem, *]; try rfl)
  intro LB hLB
  have hLB2 : ∀ m, LB.ltB (S.length + (4 + m)) = true := by intro m; rw [hLB]; (simp only [go_sem, *]; try rfl); simp; omega
  have HLB := Lib.hid hLB
  clear hLB
  refine timed1 w0 r hw (S.length + 6) (S.length + 7) (by simp) (fun k S' => ∃ S0, K k S0 ∧ S' = S0 ++ [Blk.cells [AV.int .i64 r.cols, AV.int .i64 r.rows, AV.sval false (List.map It.av r.items)], Blk.cells [AV.fn (Fn.func g) [] cap], Blk.cells [AV.int .i64 0, AV.int .i64 0, AV.snil],
    Blk.cells [AV.int .i64 r.cols, AV.int .i64 r.rows, AV.sown (S.length + 4) k k], Blk.arr 29 5 0 k (((setW r.items f).take k).map It.av), Blk.obj (Obj.deferred (some [])), LB]) (fun _ _ => False) ?_ (fun _ _ hf => hf.elim) ?_ _ ?_ _ ?_ (fun _ _ hf => hf.elim)
  · rintro k _ ⟨S0, hK0, rfl⟩
    have hs : S.length = S0.length := hn.out.trans (hK _ _ hK0).1.symm
    have h7 := hLB2 3
    have hcl : ltL (S0.length + 7) cap = true := ltL_mono (by rw [← hs, hn.out]; omega) cap hlt
    have hO2 := (hK _ _ hK0).2
    clear hK hcap hto h hlt hO
    refine ⟨by simp [hs], OuterOk.app hO2 ?_⟩
    rw [hs] at h7 ⊢
    (simp only [go_sem, *]; try rfl)
  · rintro k _ x ⟨S0, hK0, rfl⟩ hx E R' hR1 _
    have hs : S.length = S0.length := hn.out.trans (hK _ _ hK0).1.symm
    have hc := fun E => hcap k S0 E hK0
    have hto' := hto k S0 x hK0 hx
    have hKs := Lib.hid (fun S2 => hK (k + 1) S2)
    have hw' := Lib.hid hw
    have hn' := hn.out
    have hl : (setW r.items f).length = r.items.length := setW_len _ _
    have hkl : k < r.items.length := (List.getElem?_eq_some_iff.1 hx).1
    have hlen : ((setW r.items f).take k).length = k := by simp; omega
    have hb : (k + 1) * 48 ≤ 140737488355328 := by have := hw.1; omega
    clear hl hkl hK hw hto hcap hn'
    apply ya_intro HLB.out
    · (simp only [go_sem, *]; try rfl)
    · rfl
    · decide
    · rfl
    · rfl
    · (simp only [go_sem, *]; try rfl)
    intro rb BB hBB
    have HBB := Lib.hid hBB
    clear hBB
    repeat' first
      | apply x_seq | apply x_skip | apply x_block | apply x_exit | apply x_ret | apply x_ops_nil | apply p_blk | apply p_exit_it | apply p_exit_hit | apply p_ret_it | apply p_ret_blk | apply p_panic_it | apply p_panic_blk | apply p_end
      | (apply p_exit_miss; (focus rfl))
      | (apply x_region; simp only [List.toList_toArray])
      | (apply x_step0; (focus rfl); (focus (simp only [go_sem, *, It.av]; (try rfl); done)); (focus rfl); simp only [putA])
      | (apply x_panic; (focus (simp only [go_sem, *, It.av]; (try rfl); done)); (focus rfl); (focus (simp only [go_sem, *, It.av]; (try rfl); done)))
      | (apply x_step; (iterate 2 (focus (simp only [go_sem, *, It.av]; (try rfl); done))); (focus rfl); simp only [putA])
      | (apply x_unwanted; (focus (simp only [go_sem, *, It.av]; (try rfl); done)); (focus rfl); simp only [putA])
      | (apply x_condT; (focus (simp only [go_sem, *, It.av]; (try rfl); done)))
      | (apply x_condF; (focus (simp only [go_sem, *, It.av]; (try rfl); done)))
      | (apply x_guardS; (focus rfl); (fail_if_success (focus (show _ = some true; (focus (simp only [go_sem, *, It.av]; (try rfl); done))))); (focus (simp only [go_sem, *, It.av]; (try rfl); done)); all_goals (intro hb; try simp only [Bool.not_eq_true', Bool.not_eq_false'] at hb))
      | (apply x_condS; (focus (simp only [go_sem, *, It.av]; (try rfl); done)); all_goals (intro hb; try simp only [Bool.not_eq_true', Bool.not_eq_false'] at hb))
    apply yb_intro
    · (simp only [go_sem, *]; try rfl)
    · (simp only [go_sem, *]; try rfl)
    repeat' first
      | apply x_seq | apply x_skip | apply x_block | apply x_exit | apply x_ret | apply x_ops_nil | apply p_blk | apply p_exit_it | apply p_exit_hit | apply p_ret_it | apply p_ret_blk | apply p_panic_it | apply p_panic_blk | apply p_end
      | (apply p_exit_miss; (focus rfl))
      | (apply x_region; simp only [List.toList_toArray])
      | (apply x_step0; (focus rfl); (focus (simp only [go_sem, *, It.av]; (try rfl); done)); (focus rfl); simp only [putA])
      | (apply x_callA []; (focus (simp only [go_sem, *, It.av]; (try rfl); done)); (focus rfl); (focus (simp only [go_sem, *, It.av]; (try rfl); done)); (focus rfl); (iterate 2 (focus (simp only [go_sem, *, It.av]; (try rfl); done))); (first | (apply hto')); simp only [afterCall, putA])
      | (apply x_panic; (focus (simp only [go_sem, *, It.av]; (try rfl); done)); (focus rfl); (focus (simp only [go_sem, *, It.av]; (try rfl); done)))
      | (apply x_step; (iterate 2 (focus (simp only [go_sem, *, It.av]; (try rfl); done))); (focus rfl); simp only [putA])
      | (apply x_unwanted; (focus (simp only [go_sem, *, It.av]; (try rfl); done)); (focus rfl); simp only [putA])
      | (apply x_condT; (focus (simp only [go_sem, *, It.av]; (try rfl); done)))
      | (apply x_condF; (focus (simp only [go_sem, *, It.av]; (try rfl); done)))
      | (apply x_guardS; (focus rfl); (fail_if_success (focus (show _ = some true; (focus (simp only [go_sem, *, It.av]; (try rfl); done))))); (focus (simp only [go_sem, *, It.av]; (try rfl); done)); all_goals (intro hb; try simp only [Bool.not_eq_true', Bool.not_eq_false'] at hb))
      | (apply x_condS; (focus (simp only [go_sem, *, It.av]; (try rfl); done)); all_goals (intro hb; try simp only [Bool.not_eq_true', Bool.not_eq_false'] at hb))
    intro S2 hK2
    have hs2 : S0.length = S2.length := hs.symm.trans (hn.out.trans (hKs.out _ hK2).1.symm)
    repeat' first
      | apply x_seq | apply x_skip | apply x_block | apply x_exit | apply x_ret | apply x_ops_nil | apply p_blk | apply p_exit_it | apply p_exit_hit | apply p_ret_it | apply p_ret_blk | apply p_panic_it | apply p_panic_blk | apply p_end
      | (apply p_exit_miss; (focus rfl))
      | (apply x_region; simp only [List.toList_toArray])
      | (apply x_step0; (focus rfl); (focus (simp only [go_sem, *, It.av]; (try rfl); done)); (focus rfl); simp only [putA])
      | (apply x_panic; (focus (simp only [go_sem, *, It.av]; (try rfl); done)); (focus rfl); (focus (simp only [go_sem, *, It.av]; (try rfl); done)))
      | (apply x_step; (iterate 2 (focus (simp only [go_sem, *, It.av]; (try rfl); done))); (focus rfl); simp only [putA])
      | (apply x_unwanted; (focus (simp only [go_sem, *, It.av]; (try rfl); done)); (focus rfl); simp only [putA])
      | (apply x_condT; (focus (simp only [go_sem, *, It.av]; (try rfl); done)))
      | (apply x_condF; (focus (simp only [go_sem, *, It.av]; (try rfl); done)))
      | (apply x_guardS; (focus rfl); (fail_if_success (focus (show _ = some true; (focus (simp only [go_sem, *, It.av]; (try rfl); done))))); (focus (simp only [go_sem, *, It.av]; (try rfl); done)); all_goals (intro hb; try simp only [Bool.not_eq_true', Bool.not_eq_false'] at hb))
      | (apply x_condS; (focus (simp only [go_sem, *, It.av]; (try rfl); done)); all_goals (intro hb; try simp only [Bool.not_eq_true', Bool.not_eq_false'] at hb))
    apply rp_n HLB.out HBB.out
    · (simp only [go_sem, *]; try rfl)
    · (simp only [go_sem, *]; try rfl)
    have key := hR1 _ [Blk.cells [AV.int .i64 (f k), AV.int .i64 x.kind, AV.int .i64 x.cols, AV.int .i64 x.rows, AV.str x.text], Blk.arr 29 5 0 0 [It.av { x with wait := f k }]] ⟨S2, hK2, rfl⟩
    rw [setW_succ hx, List.map_append] at key
    simpa only [app_assoc, List.cons_append, List.nil_append, hs, hs2, It.av, List.map_cons, List.map_nil] using key
  · exact ⟨S, h0, by simp [app_assoc]⟩
  · rintro _ ⟨S0, hK0, rfl⟩
    have hs : S.length = S0.length := hn.out.trans (hK _ _ hK0).1.symm
    have hO2 := (hK _ _ hK0).2
    have hl : ((setW r.items f).take r.items.length) = setW r.items f := List.take_of_length_le (by rw [setW_len]; omega)
    have hlen := setW_len r.items f
    have hh := h S0 hK0
    rw [hl]
    clear hK hcap hto h hlt hO hl hw
    apply ar_none HLB.out rfl
    · (simp only [go_sem, *]; try rfl)
    · (simp only [go_sem, *]; try rfl)
    repeat' first
      | apply x_seq | apply x_skip | apply x_block | apply x_exit | apply x_ret | apply x_ops_nil | apply p_blk | apply p_exit_it | apply p_exit_hit | apply p_ret_it | apply p_ret_blk | apply p_panic_it | apply p_panic_blk | apply p_end
      | (apply p_exit_miss; (focus rfl))
      | (apply x_region; simp only [List.toList_toArray])
      | (apply x_step0; (focus rfl); (focus (simp only [go_sem, *]; (try rfl); done)); (focus rfl); simp only [putA])
      | (apply x_panic; (focus (simp only [go_sem, *]; (try rfl); done)); (focus rfl); (focus (simp only [go_sem, *]; (try rfl); done)))
      | (apply x_step; (iterate 2 (focus (simp only [go_sem, *]; (try rfl); done))); (focus rfl); simp only [putA])
      | (apply x_unwanted; (focus (simp only [go_sem, *]; (try rfl); done)); (focus rfl); simp only [putA])
      | (apply x_condT; (focus (simp only [go_sem, *]; (try rfl); done)))
      | (apply x_condF; (focus (simp only [go_sem, *]; (try rfl); done)))
      | (apply x_guardS; (focus rfl); (fail_if_success (focus (show _ = some true; (focus (simp only [go_sem, *]; (try rfl); done))))); (focus (simp only [go_sem, *]; (try rfl); done)); all_goals (intro hb; try simp only [Bool.not_eq_true', Bool.not_eq_false'] at hb))
      | (apply x_condS; (focus (simp only [go_sem, *]; (try rfl); done)); all_goals (intro hb; try simp only [Bool.not_eq_true', Bool.not_eq_false'] at hb))
    apply f_retO (S2 := S0)
    · (simp only [go_sem, *]; try rfl)
    · (simp only [go_sem, *]; try rfl)
    · exact hs.symm
    · exact hO2
    · (simp only [go_sem, *, Tryz.results56]; try rfl)
    · (simp only [go_sem, *]; try rfl)
    · (simp only [go_sem, *]; try rfl)
    · exact hh
end Go.Proofs.YtnndmokndgnidaaGreatDoor
namespace Go.Proofs.YtnndmokndgnidaaGreatDoor
open Go Go.Fen
set_option linter.unusedSimpArgs false
set_option linter.unusedVariables false
attribute [local irreducible] RunX WP ACall AnyP OpA ProtL
set_option maxRecDepth 8000
def lastF (r : Rec) (by_ of_ : Int) (k : Nat) : Int := tmz r.items k * by_ / of_
theorem lastF_zero (r : Rec) (a b : Int) : lastF r a b 0 = 0 := by simp [lastF, tmz]
theorem lastF_bd {r : Rec} (hw : Waits r.items) {a b : Int} (ha : 0 ≤ a) (ha' : a ≤ 1000) (hb : 1 ≤ b) (k : Nat) : 0 ≤ lastF r a b k ∧ lastF r a b k ≤ 1000000000000 ∧ 0 ≤ tmz r.items k * a ∧ tmz r.items k * a ≤ 1000000000000 := by
  have h1 := tmz_bd hw.2 k
  have h2 : tmz r.items k ≤ 1000000000 := by have := hw.1; omega
  have h3 : 0 ≤ tmz r.items k * a := Int.mul_nonneg h1.1 ha
  have h4 : tmz r.items k * a ≤ 1000000000 * 1000 := Int.mul_le_mul h2 ha' ha (by omega)
  unfold lastF
  refine ⟨Int.ediv_nonneg h3 (by omega), ?_, h3, by omega⟩
  have := Int.ediv_le_self b h3
  omega
set_option maxHeartbeats 1000000 in
theorem fasterW (w0 : World) (S : List Blk) (hO0 : OuterOk S) (r : Rec) (hw : Waits r.items) (a b : Int) (ha : 0 ≤ a) (ha' : a ≤ 1000) (hb : 1 ≤ b) (hb' : b ≤ 1000) :
    IsW w0 r 57 [.own (S.length + 4) 0, .own (S.length + 1) 0, .own (S.length + 2) 0] (fun k => lastF r a b (k + 1) - lastF r a b k)
      (fun k S' => S' = S ++ [Blk.cells [AV.int .i64 r.cols, AV.int .i64 r.rows, AV.sval false (List.map It.av r.items)], Blk.cells [.int .i64 a], Blk.cells [.int .i64 b], Blk.cells [AV.int .i64 0, AV.int .i64 0, AV.snil], Blk.cells [.int .i64 (lastF r a b k)]]) := by
  rintro k _ x rfl hx E R h
  have b1 := lastF_bd hw ha ha' hb k
  have b2 := lastF_bd hw ha ha' hb (k + 1)
  have e1 : IntKind.i64.wrap (tmz r.items (k + 1) * a) = tmz r.items (k + 1) * a := IntWalk.i64_in _ (by omega)
  have e2 : IntKind.i64.wrap ((tmz r.items (k + 1) * a).tdiv b) = lastF r a b (k + 1) := by
    rw [Int.tdiv_eq_ediv_of_nonneg b2.2.2.1]
    exact IntWalk.i64_in _ (by unfold lastF at b2; omega)
  have e3 : IntKind.i64.wrap (lastF r a b (k + 1) - lastF r a b k) = lastF r a b (k + 1) - lastF r a b k := IntWalk.i64_in _ (by omega)
  have e4 : (b == 0) = false := by simp; omega
  have e5 : (b = 0) = False := by simp; omega
  clear b1 b2 ha ha' hb hb'
  refine enter Tryz.func57 rfl (by decide +kernel) (by rw [Tryz.ntmps57]; simp) (by rw [Tryz.ntmps57]; decide) (fun hO => ?_); rw [Tryz.ntmps57]
  repeat' first
    | apply x_seq | apply x_skip | apply x_block | apply x_exit | apply x_ret | apply x_ops_nil | apply p_blk | apply p_exit_it | apply p_exit_hit | apply p_ret_it | apply p_ret_blk | apply p_panic_it | apply p_panic_blk | apply p_end
    | (apply p_exit_miss; (focus rfl))
    | (apply x_region; simp only [List.toList_toArray])
    | (apply x_step0; (focus rfl); (focus (simp only [go_sem, *]; (try rfl); done)); (focus rfl); simp only [putA])
    | (apply x_panic; (focus (simp only [go_sem, *]; (try rfl); done)); (focus rfl); (focus (simp only [go_sem, *]; (try rfl); done)))
    | (apply x_step; (iterate 2 (focus (simp only [go_sem, *]; (try rfl); done))); (focus rfl); simp only [putA])
    | (apply x_unwanted; (focus (simp only [go_sem, *]; (try rfl); done)); (focus rfl); simp only [putA])
    | (apply x_condT; (focus (simp only [go_sem, *]; (try rfl); done)))
    | (apply x_condF; (focus (simp only [go_sem, *]; (try rfl); done)))
    | (apply x_guardS; (focus rfl); (fail_if_success (focus (show _ = some true; (focus (simp only [go_sem, *]; (try rfl); done))))); (focus (simp only [go_sem, *]; (try rfl); done)); all_goals (intro hb; try simp only [Bool.not_eq_true', Bool.not_eq_false'] at hb))
    | (apply x_condS; (focus (simp only [go_sem, *]; (try rfl); done)); all_goals (intro hb; try simp only [Bool.not_eq_true', Bool.not_eq_false'] at hb))
  (apply f_retX; iterate 5 (focus (simp only [go_sem, *, Tryz.results57]; (try rfl); done)))
  · have hq := OuterOk.set (a := S.length + 4) (B := Blk.cells [.int .i64 (lastF r a b (k + 1))]) hO rfl
    simp only [app_assoc, List.cons_append, List.nil_append, set_new, List.set_cons_succ, List.set_cons_zero] at hq ⊢
    exact hq
  · (simp only [go_sem, *]; try rfl)
  · refine cast ?_ (h _ rfl)
    simp only [app_assoc, List.cons_append, List.nil_append]
def zeroR : Rec := ⟨0, 0, []⟩
def wB (n a b : Int) : Bool := decide (a ≤ n) && decide (n ≤ b)
def fasterS (r : Rec) (a b : Int) : Rec × Int :=
  if checkB r then (if (wB a 0 1000 && wB b 1 1000) then
    (if checkB { r with items := setW r.items (fun k => lastF r a b (k + 1) - lastF r a b k) } then ({ r with items := setW r.items (fun k => lastF r a b (k + 1) - lastF r a b k) }, 0) else (zeroR, 3)) else (zeroR, 2)) else (zeroR, 520)
def resAV (p : Rec × Int) : AV := .tup [p.1.av, .int .i64 p.2]
theorem within' (w0 : World) (S : List Blk) (n a b : Int) (R : AOut → List Blk → Prop) (h : R (.ret (.bool (wB n a b))) S) :
    ACall Tryz.prog w0 49 [.int .i64 n, .int .i64 a, .int .i64 b] S R := within w0 S n a b R h
set_option maxHeartbeats 2000000 in
theorem faster (w0 : World) (S : List Blk) (r : Rec) (hm : (r.items.length : Int) < 9223372036854775807) (a b : Int) (R : AOut → List Blk → Prop) (h : R (.ret (resAV (fasterS r a b))) S) :
    ACall Tryz.prog w0 28 [r.av, .int .i64 a, .int .i64 b] S R := by
  have hck := fun S' => check w0 S' r hm
  unfold fasterS at h
  cases hc : checkB r with
  | false =>
    simp only [hc, Bool.false_eq_true, if_false] at h hck
    unfold Rec.av at hck ⊢
    refine enter Tryz.func28 rfl (by decide +kernel) (by rw [Tryz.ntmps28]; simp) (by rw [Tryz.ntmps28]; decide) (fun hO => ?_); rw [Tryz.ntmps28]
    repeat' first
      | apply x_seq | apply x_skip | apply x_block | apply x_exit | apply x_ret | apply x_ops_nil | apply p_blk | apply p_exit_it | apply p_exit_hit | apply p_ret_it | apply p_ret_blk | apply p_panic_it | apply p_panic_blk | apply p_end
      | (apply p_exit_miss; (focus rfl))
      | (apply x_region; simp only [List.toList_toArray])
      | (apply x_step0; (focus rfl); (focus (simp only [go_sem, *]; (try rfl); done)); (focus rfl); simp only [putA])
      | (apply x_callA []; (focus (simp only [go_sem, *]; (try rfl); done)); (focus rfl); (focus (simp only [go_sem, *]; (try rfl); done)); (focus rfl); (iterate 2 (focus (simp only [go_sem, *]; (try rfl); done))); (first | (apply hck)); simp only [afterCall, putA])
      | (apply x_panic; (focus (simp only [go_sem, *]; (try rfl); done)); (focus rfl); (focus (simp only [go_sem, *]; (try rfl); done)))
      | (apply x_step; (iterate 2 (focus (simp only [go_sem, *]; (try rfl); done))); (focus rfl); simp only [putA])
      | (apply x_unwanted; (focus (simp only [go_sem, *]; (try rfl); done)); (focus rfl); simp only [putA])
      | (apply x_condT; (focus (simp only [go_sem, *]; (try rfl); done)))
      | (apply x_condF; (focus (simp only [go_sem, *]; (try rfl); done)))
      | (apply x_guardS; (focus rfl); (fail_if_success (focus (show _ = some true; (focus (simp only [go_sem, *]; (try rfl); done))))); (focus (simp only [go_sem, *]; (try rfl); done)); all_goals (intro hb; try simp only [Bool.not_eq_true', Bool.not_eq_false'] at hb))
      | (apply x_condS; (focus (simp only [go_sem, *]; (try rfl); done)); all_goals (intro hb; try simp only [Bool.not_eq_true', Bool.not_eq_false'] at hb))
    (apply f_ret; iterate 7 (focus (simp only [go_sem, *, Tryz.results28]; (try rfl); done)))
    exact h
  | true =>
    simp only [hc, if_true] at h hck
    cases ha : wB a 0 1000 with
    | false =>
      simp only [ha, Bool.false_and, Bool.false_eq_true, if_false] at h
      unfold Rec.av at hck ⊢
      refine enter Tryz.func28 rfl (by decide +kernel) (by rw [Tryz.ntmps28]; simp) (by rw [Tryz.ntmps28]; decide) (fun hO => ?_); rw [Tryz.ntmps28]
      repeat' first
        | apply x_seq | apply x_skip | apply x_block | apply x_exit | apply x_ret | apply x_ops_nil | apply p_blk | apply p_exit_it | apply p_exit_hit | apply p_ret_it | apply p_ret_blk | apply p_panic_it | apply p_panic_blk | apply p_end
        | (apply p_exit_miss; (focus rfl))
        | (apply x_region; simp only [List.toList_toArray])
        | (apply x_step0; (focus rfl); (focus (simp only [go_sem, *]; (try rfl); done)); (focus rfl); simp only [putA])
        | (apply x_callA []; (focus (simp only [go_sem, *]; (try rfl); done)); (focus rfl); (focus (simp only [go_sem, *]; (try rfl); done)); (focus rfl); (iterate 2 (focus (simp only [go_sem, *]; (try rfl); done))); (first | (apply hck) | (apply within')); simp only [afterCall, putA])
        | (apply x_panic; (focus (simp only [go_sem, *]; (try rfl); done)); (focus rfl); (focus (simp only [go_sem, *]; (try rfl); done)))
        | (apply x_step; (iterate 2 (focus (simp only [go_sem, *]; (try rfl); done))); (focus rfl); simp only [putA])
        | (apply x_unwanted; (focus (simp only [go_sem, *]; (try rfl); done)); (focus rfl); simp only [putA])
        | (apply x_condT; (focus (simp only [go_sem, *]; (try rfl); done)))
        | (apply x_condF; (focus (simp only [go_sem, *]; (try rfl); done)))
        | (apply x_guardS; (focus rfl); (fail_if_success (focus (show _ = some true; (focus (simp only [go_sem, *]; (try rfl); done))))); (focus (simp only [go_sem, *]; (try rfl); done)); all_goals (intro hb; try simp only [Bool.not_eq_true', Bool.not_eq_false'] at hb))
        | (apply x_condS; (focus (simp only [go_sem, *]; (try rfl); done)); all_goals (intro hb; try simp only [Bool.not_eq_true', Bool.not_eq_false'] at hb))
      (apply f_ret; iterate 7 (focus (simp only [go_sem, *, Tryz.results28]; (try rfl); done)))
      exact h
    | true =>
      cases hb : wB b 1 1000 with
      | false =>
        simp only [ha, hb, Bool.and_false, Bool.false_eq_true, if_false] at h
        unfold Rec.av at hck ⊢
        refine enter Tryz.func28 rfl (by decide +kernel) (by rw [Tryz.ntmps28]; simp) (by rw [Tryz.ntmps28]; decide) (fun hO => ?_); rw [Tryz.ntmps28]
        repeat' first
          | apply x_seq | apply x_skip | apply x_block | apply x_exit | apply x_ret | apply x_ops_nil | apply p_blk | apply p_exit_it | apply p_exit_hit | apply p_ret_it | apply p_ret_blk | apply p_panic_it | apply p_panic_blk | apply p_end
          | (apply p_exit_miss; (focus rfl))
          | (apply x_region; simp only [List.toList_toArray])
          | (apply x_step0; (focus rfl); (focus (simp only [go_sem, *]; (try rfl); done)); (focus rfl); simp only [putA])
          | (apply x_callA []; (focus (simp only [go_sem, *]; (try rfl); done)); (focus rfl); (focus (simp only [go_sem, *]; (try rfl); done)); (focus rfl); (iterate 2 (focus (simp only [go_sem, *]; (try rfl); done))); (first | (apply hck) | (apply within')); simp only [afterCall, putA])
          | (apply x_panic; (focus (simp only [go_sem, *]; (try rfl); done)); (focus rfl); (focus (simp only [go_sem, *]; (try rfl); done)))
          | (apply x_step; (iterate 2 (focus (simp only [go_sem, *]; (try rfl); done))); (focus rfl); simp only [putA])
          | (apply x_unwanted; (focus (simp only [go_sem, *]; (try rfl); done)); (focus rfl); simp only [putA])
          | (apply x_condT; (focus (simp only [go_sem, *]; (try rfl); done)))
          | (apply x_condF; (focus (simp only [go_sem, *]; (try rfl); done)))
          | (apply x_guardS; (focus rfl); (fail_if_success (focus (show _ = some true; (focus (simp only [go_sem, *]; (try rfl); done))))); (focus (simp only [go_sem, *]; (try rfl); done)); all_goals (intro hb; try simp only [Bool.not_eq_true', Bool.not_eq_false'] at hb))
          | (apply x_condS; (focus (simp only [go_sem, *]; (try rfl); done)); all_goals (intro hb; try simp only [Bool.not_eq_true', Bool.not_eq_false'] at hb))
        (apply f_ret; iterate 7 (focus (simp only [go_sem, *, Tryz.results28]; (try rfl); done)))
        exact h
      | true =>
        simp only [ha, hb, Bool.and_self, if_true] at h
        have hw := waits_of hc
        have ba : 0 ≤ a ∧ a ≤ 1000 := by unfold wB at ha; simpa using ha
        have bb : 1 ≤ b ∧ b ≤ 1000 := by unfold wB at hb; simpa using hb
        have hck2 := fun S' => check w0 S' { r with items := setW r.items (fun k => lastF r a b (k + 1) - lastF r a b k) } (by simp only [setW_len]; exact hm)
        have hwt : OuterOk S → ∀ R', R' (.ret (Rec.av { r with items := setW r.items (fun k => lastF r a b (k + 1) - lastF r a b k) })) (S ++ [Blk.cells [AV.int .i64 r.cols, AV.int .i64 r.rows, AV.sval false (List.map It.av r.items)], Blk.cells [.int .i64 a], Blk.cells [.int .i64 b], Blk.cells [AV.int .i64 0, AV.int .i64 0, AV.snil], Blk.cells [.int .i64 (lastF r a b r.items.length)]]) →
            ACall Tryz.prog w0 56 [r.av, .fn (.func 57) [] [.own (S.length + 4) 0, .own (S.length + 1) 0, .own (S.length + 2) 0]] (S ++ [Blk.cells [AV.int .i64 r.cols, AV.int .i64 r.rows, AV.sval false (List.map It.av r.items)], Blk.cells [.int .i64 a], Blk.cells [.int .i64 b], Blk.cells [AV.int .i64 0, AV.int .i64 0, AV.snil], Blk.cells [.int .i64 0]]) R' := by
          intro hO R' hR'
          refine waiting w0 r hw _ _ _ (S.length + 5) _ ?_ ?_ ?_ (fasterW w0 S hO r hw a b ba.1 ba.2 bb.1 bb.2) _ (by rw [lastF_zero]) R' ?_
          · rintro k _ rfl
            exact ⟨by simp, OuterOk.app hO (by (simp only [go_sem, *]; try rfl))⟩
          · rintro k _ E rfl
            (simp only [go_sem, *]; try rfl)
          · (simp only [go_sem, *]; try rfl)
          · rintro _ rfl; exact hR'
        cases hq : checkB { r with items := setW r.items (fun k => lastF r a b (k + 1) - lastF r a b k) } with
        | false =>
          simp only [hq, Bool.false_eq_true, if_false] at h hck2
          unfold Rec.av at hck hck2 hwt ⊢
          refine enter Tryz.func28 rfl (by decide +kernel) (by rw [Tryz.ntmps28]; simp) (by rw [Tryz.ntmps28]; decide) (fun hO => ?_); rw [Tryz.ntmps28]
          have hwt' := hwt hO
          clear hwt
          repeat' first
            | apply x_seq | apply x_skip | apply x_block | apply x_exit | apply x_ret | apply x_ops_nil | apply p_blk | apply p_exit_it | apply p_exit_hit | apply p_ret_it | apply p_ret_blk | apply p_panic_it | apply p_panic_blk | apply p_end
            | (apply p_exit_miss; (focus rfl))
            | (apply x_region; simp only [List.toList_toArray])
            | (apply x_step0; (focus rfl); (focus (simp only [go_sem, *]; (try rfl); done)); (focus rfl); simp only [putA])
            | (apply x_callA []; (focus (simp only [go_sem, *]; (try rfl); done)); (focus rfl); (focus (simp only [go_sem, *]; (try rfl); done)); (focus rfl); (iterate 2 (focus (simp only [go_sem, *]; (try rfl); done))); (first | (apply hck) | (apply within') | (apply hwt') | (apply hck2)); simp only [afterCall, putA])
            | (apply x_panic; (focus (simp only [go_sem, *]; (try rfl); done)); (focus rfl); (focus (simp only [go_sem, *]; (try rfl); done)))
            | (apply x_step; (iterate 2 (focus (simp only [go_sem, *]; (try rfl); done))); (focus rfl); simp only [putA])
            | (apply x_unwanted; (focus (simp only [go_sem, *]; (try rfl); done)); (focus rfl); simp only [putA])
            | (apply x_condT; (focus (simp only [go_sem, *]; (try rfl); done)))
            | (apply x_condF; (focus (simp only [go_sem, *]; (try rfl); done)))
            | (apply x_guardS; (focus rfl); (fail_if_success (focus (show _ = some true; (focus (simp only [go_sem, *]; (try rfl); done))))); (focus (simp only [go_sem, *]; (try rfl); done)); all_goals (intro hb; try simp only [Bool.not_eq_true', Bool.not_eq_false'] at hb))
            | (apply x_condS; (focus (simp only [go_sem, *]; (try rfl); done)); all_goals (intro hb; try simp only [Bool.not_eq_true', Bool.not_eq_false'] at hb))
          (apply f_ret; iterate 7 (focus (simp only [go_sem, *, Tryz.results28]; (try rfl); done)))
          exact h
        | true =>
          simp only [hq, if_true] at h hck2
          unfold Rec.av at hck hck2 hwt ⊢
          refine enter Tryz.func28 rfl (by decide +kernel) (by rw [Tryz.ntmps28]; simp) (by rw [Tryz.ntmps28]; decide) (fun hO => ?_); rw [Tryz.ntmps28]
          have hwt' := hwt hO
          clear hwt
          repeat' first
            | apply x_seq | apply x_skip | apply x_block | apply x_exit | apply x_ret | apply x_ops_nil | apply p_blk | apply p_exit_it | apply p_exit_hit | apply p_ret_it | apply p_ret_blk | apply p_panic_it | apply p_panic_blk | apply p_end
            | (apply p_exit_miss; (focus rfl))
            | (apply x_region; simp only [List.toList_toArray])
            | (apply x_step0; (focus rfl); (focus (simp only [go_sem, *]; (try rfl); done)); (focus rfl); simp only [putA])
            | (apply x_callA []; (focus (simp only [go_sem, *]; (try rfl); done)); (focus rfl); (focus (simp only [go_sem, *]; (try rfl); done)); (focus rfl); (iterate 2 (focus (simp only [go_sem, *]; (try rfl); done))); (first | (apply hck) | (apply within') | (apply hwt') | (apply hck2)); simp only [afterCall, putA])
            | (apply x_panic; (focus (simp only [go_sem, *]; (try rfl); done)); (focus rfl); (focus (simp only [go_sem, *]; (try rfl); done)))
            | (apply x_step; (iterate 2 (focus (simp only [go_sem, *]; (try rfl); done))); (focus rfl); simp only [putA])
            | (apply x_unwanted; (focus (simp only [go_sem, *]; (try rfl); done)); (focus rfl); simp only [putA])
            | (apply x_condT; (focus (simp only [go_sem, *]; (try rfl); done)))
            | (apply x_condF; (focus (simp only [go_sem, *]; (try rfl); done)))
            | (apply x_guardS; (focus rfl); (fail_if_success (focus (show _ = some true; (focus (simp only [go_sem, *]; (try rfl); done))))); (focus (simp only [go_sem, *]; (try rfl); done)); all_goals (intro hb; try simp only [Bool.not_eq_true', Bool.not_eq_false'] at hb))
            | (apply x_condS; (focus (simp only [go_sem, *]; (try rfl); done)); all_goals (intro hb; try simp only [Bool.not_eq_true', Bool.not_eq_false'] at hb))
          (apply f_ret; iterate 7 (focus (simp only [go_sem, *, Tryz.results28]; (try rfl); done)))
          exact h
def idleS (r : Rec) (m : Int) : Rec × Int :=
  if checkB r then (if wB m 0 1000000 then ({ r with items := r.items.map fun x => { x with wait := min x.wait m } }, 0) else (zeroR, 2)) else (zeroR, 520)
def waitAt (r : Rec) (m : Int) (k : Nat) : Int := match r.items[k]? with
  | some x => min x.wait m
  | none => 0
theorem setW_min (r : Rec) (m : Int) : setW r.items (waitAt r m) = r.items.map fun x => { x with wait := min x.wait m } := by
  apply List.ext_getElem?
  intro i
  simp only [setW, List.getElem?_mapIdx, List.getElem?_map]
  cases h : r.items[i]? with
  | none => rfl
  | some x => simp [waitAt, h]
set_option maxHeartbeats 1000000 in
theorem idleW (w0 : World) (S : List Blk) (r : Rec) (m : Int) :
    IsW w0 r 58 [.own (S.length + 1) 0] (waitAt r m)
      (fun k S' => S' = S ++ [Blk.cells [AV.int .i64 r.cols, AV.int .i64 r.rows, AV.sval false (List.map It.av r.items)], Blk.cells [.int .i64 m], Blk.cells [AV.int .i64 0, AV.int .i64 0, AV.snil]]) := by
  rintro k _ x rfl hx E R h
  have e1 : (if m < x.wait then m else x.wait) = waitAt r m k := by simp only [waitAt, hx]; split <;> omega
  refine enter Tryz.func58 rfl (by decide +kernel) (by rw [Tryz.ntmps58]; simp) (by rw [Tryz.ntmps58]; decide) (fun hO => ?_); rw [Tryz.ntmps58]
  repeat' first
    | apply x_seq | apply x_skip | apply x_block | apply x_exit | apply x_ret | apply x_ops_nil | apply p_blk | apply p_exit_it | apply p_exit_hit | apply p_ret_it | apply p_ret_blk | apply p_panic_it | apply p_panic_blk | apply p_end
    | (apply p_exit_miss; (focus rfl))
    | (apply x_region; simp only [List.toList_toArray])
    | (apply x_step0; (focus rfl); (focus (simp only [go_sem, *]; (try rfl); done)); (focus rfl); simp only [putA])
    | (apply x_panic; (focus (simp only [go_sem, *]; (try rfl); done)); (focus rfl); (focus (simp only [go_sem, *]; (try rfl); done)))
    | (apply x_step; (iterate 2 (focus (simp only [go_sem, *]; (try rfl); done))); (focus rfl); simp only [putA])
    | (apply x_unwanted; (focus (simp only [go_sem, *]; (try rfl); done)); (focus rfl); simp only [putA])
    | (apply x_condT; (focus (simp only [go_sem, *]; (try rfl); done)))
    | (apply x_condF; (focus (simp only [go_sem, *]; (try rfl); done)))
    | (apply x_guardS; (focus rfl); (fail_if_success (focus (show _ = some true; (focus (simp only [go_sem, *]; (try rfl); done))))); (focus (simp only [go_sem, *]; (try rfl); done)); all_goals (intro hb; try simp only [Bool.not_eq_true', Bool.not_eq_false'] at hb))
    | (apply x_condS; (focus (simp only [go_sem, *]; (try rfl); done)); all_goals (intro hb; try simp only [Bool.not_eq_true', Bool.not_eq_false'] at hb))
  (apply f_retX; iterate 5 (focus (simp only [go_sem, *, Tryz.results58]; (try rfl); done)))
  · simpa only [app_assoc, List.cons_append, List.nil_append] using hO
  · (simp only [go_sem, *]; try rfl)
  · simpa only [app_assoc, List.cons_append, List.nil_append] using h _ rfl
set_option maxHeartbeats 2000000 in
theorem idle (w0 : World) (S : List Blk) (r : Rec) (hm : (r.items.length : Int) < 9223372036854775807) (m : Int) (R : AOut → List Blk → Prop) (h : R (.ret (resAV (idleS r m))) S) :
    ACall Tryz.prog w0 29 [r.av, .int .i64 m] S R := by
  have hck := fun S' => check w0 S' r hm
  unfold idleS at h
  cases hc : checkB r with
  | false =>
    simp only [hc, Bool.false_eq_true, if_false] at h hck
    unfold Rec.av at hck ⊢
    refine enter Tryz.func29 rfl (by decide +kernel) (by rw [Tryz.ntmps29]; simp) (by rw [Tryz.ntmps29]; decide) (fun hO => ?_); rw [Tryz.ntmps29]
    repeat' first
      | apply x_seq | apply x_skip | apply x_block | apply x_exit | apply x_ret | apply x_ops_nil | apply p_blk | apply p_exit_it | apply p_exit_hit | apply p_ret_it | apply p_ret_blk | apply p_panic_it | apply p_panic_blk | apply p_end
      | (apply p_exit_miss; (focus rfl))
      | (apply x_region; simp only [List.toList_toArray])
      | (apply x_step0; (focus rfl); (focus (simp only [go_sem, *]; (try rfl); done)); (focus rfl); simp only [putA])
      | (apply x_callA []; (focus (simp only [go_sem, *]; (try rfl); done)); (focus rfl); (focus (simp only [go_sem, *]; (try rfl); done)); (focus rfl); (iterate 2 (focus (simp only [go_sem, *]; (try rfl); done))); (first | (apply hck)); simp only [afterCall, putA])
      | (apply x_panic; (focus (simp only [go_sem, *]; (try rfl); done)); (focus rfl); (focus (simp only [go_sem, *]; (try rfl); done)))
      | (apply x_step; (iterate 2 (focus (simp only [go_sem, *]; (try rfl); done))); (focus rfl); simp only [putA])
      | (apply x_unwanted; (focus (simp only [go_sem, *]; (try rfl); done)); (focus rfl); simp only [putA])
      | (apply x_condT; (focus (simp only [go_sem, *]; (try rfl); done)))
      | (apply x_condF; (focus (simp only [go_sem, *]; (try rfl); done)))
      | (apply x_guardS; (focus rfl); (fail_if_success (focus (show _ = some true; (focus (simp only [go_sem, *]; (try rfl); done))))); (focus (simp only [go_sem, *]; (try rfl); done)); all_goals (intro hb; try simp only [Bool.not_eq_true', Bool.not_eq_false'] at hb))
      | (apply x_condS; (focus (simp only [go_sem, *]; (try rfl); done)); all_goals (intro hb; try simp only [Bool.not_eq_true', Bool.not_eq_false'] at hb))
    (apply f_ret; iterate 7 (focus (simp only [go_sem, *, Tryz.results29]; (try rfl); done)))
    exact h
  | true =>
    simp only [hc, if_true] at h hck
    cases ha : wB m 0 1000000 with
    | false =>
      simp only [ha, Bool.false_eq_true, if_false] at h
      unfold Rec.av at hck ⊢
      refine enter Tryz.func29 rfl (by decide +kernel) (by rw [Tryz.ntmps29]; simp) (by rw [Tryz.ntmps29]; decide) (fun hO => ?_); rw [Tryz.ntmps29]
      repeat' first
        | apply x_seq | apply x_skip | apply x_block | apply x_exit | apply x_ret | apply x_ops_nil | apply p_blk | apply p_exit_it | apply p_exit_hit | apply p_ret_it | apply p_ret_blk | apply p_panic_it | apply p_panic_blk | apply p_end
        | (apply p_exit_miss; (focus rfl))
        | (apply x_region; simp only [List.toList_toArray])
        | (apply x_step0; (focus rfl); (focus (simp only [go_sem, *]; (try rfl); done)); (focus rfl); simp only [putA])
        | (apply x_callA []; (focus (simp only [go_sem, *]; (try rfl); done)); (focus rfl); (focus (simp only [go_sem, *]; (try rfl); done)); (focus rfl); (iterate 2 (focus (simp only [go_sem, *]; (try rfl); done))); (first | (apply hck) | (apply within')); simp only [afterCall, putA])
        | (apply x_panic; (focus (simp only [go_sem, *]; (try rfl); done)); (focus rfl); (focus (simp only [go_sem, *]; (try rfl); done)))
        | (apply x_step; (iterate 2 (focus (simp only [go_sem, *]; (try rfl); done))); (focus rfl); simp only [putA])
        | (apply x_unwanted; (focus (simp only [go_sem, *]; (try rfl); done)); (focus rfl); simp only [putA])
        | (apply x_condT; (focus (simp only [go_sem, *]; (try rfl); done)))
        | (apply x_condF; (focus (simp only [go_sem, *]; (try rfl); done)))
        | (apply x_guardS; (focus rfl); (fail_if_success (focus (show _ = some true; (focus (simp only [go_sem, *]; (try rfl); done))))); (focus (simp only [go_sem, *]; (try rfl); done)); all_goals (intro hb; try simp only [Bool.not_eq_true', Bool.not_eq_false'] at hb))
        | (apply x_condS; (focus (simp only [go_sem, *]; (try rfl); done)); all_goals (intro hb; try simp only [Bool.not_eq_true', Bool.not_eq_false'] at hb))
      (apply f_ret; iterate 7 (focus (simp only [go_sem, *, Tryz.results29]; (try rfl); done)))
      exact h
    | true =>
      simp only [ha, if_true] at h
      have hw := waits_of hc
      have hwt : OuterOk S → ∀ R', R' (.ret (Rec.av { r with items := r.items.map fun x => { x with wait := min x.wait m } })) (S ++ [Blk.cells [AV.int .i64 r.cols, AV.int .i64 r.rows, AV.sval false (List.map It.av r.items)], Blk.cells [.int .i64 m], Blk.cells [AV.int .i64 0, AV.int .i64 0, AV.snil]]) →
          ACall Tryz.prog w0 56 [r.av, .fn (.func 58) [] [.own (S.length + 1) 0]] (S ++ [Blk.cells [AV.int .i64 r.cols, AV.int .i64 r.rows, AV.sval false (List.map It.av r.items)], Blk.cells [.int .i64 m], Blk.cells [AV.int .i64 0, AV.int .i64 0, AV.snil]]) R' := by
        intro hO R' hR'
        refine waiting w0 r hw _ _ _ (S.length + 3) _ ?_ ?_ ?_ (idleW w0 S r m) _ rfl R' ?_
        · rintro k _ rfl
          exact ⟨by simp, OuterOk.app hO (by (simp only [go_sem, *]; try rfl))⟩
        · rintro k _ E rfl
          (simp only [go_sem, *]; try rfl)
        · (simp only [go_sem, *]; try rfl)
        · rintro _ rfl; rw [setW_min]; exact hR'
      unfold Rec.av at hck hwt ⊢
      refine enter Tryz.func29 rfl (by decide +kernel) (by rw [Tryz.ntmps29]; simp) (by rw [Tryz.ntmps29]; decide) (fun hO => ?_); rw [Tryz.ntmps29]
      have hwt' := hwt hO
      clear hwt
      repeat' first
        | apply x_seq | apply x_skip | apply x_block | apply x_exit | apply x_ret | apply x_ops_nil | apply p_blk | apply p_exit_it | apply p_exit_hit | apply p_ret_it | apply p_ret_blk | apply p_panic_it | apply p_panic_blk | apply p_end
        | (apply p_exit_miss; (focus rfl))
        | (apply x_region; simp only [List.toList_toArray])
        | (apply x_step0; (focus rfl); (focus (simp only [go_sem, *]; (try rfl); done)); (focus rfl); simp only [putA])
        | (apply x_callA []; (focus (simp only [go_sem, *]; (try rfl); done)); (focus rfl); (focus (simp only [go_sem, *]; (try rfl); done)); (focus rfl); (iterate 2 (focus (simp only [go_sem, *]; (try rfl); done))); (first | (apply hck) | (apply within') | (apply hwt')); simp only [afterCall, putA])
        | (apply x_panic; (focus (simp only [go_sem, *]; (try rfl); done)); (focus rfl); (focus (simp only [go_sem, *]; (try rfl); done)))
        | (apply x_step; (iterate 2 (focus (simp only [go_sem, *]; (try rfl); done))); (focus rfl); simp only [putA])
        | (apply x_unwanted; (focus (simp only [go_sem, *]; (try rfl); done)); (focus rfl); simp only [putA])
        | (apply x_condT; (focus (simp only [go_sem, *]; (try rfl); done)))
        | (apply x_condF; (focus (simp only [go_sem, *]; (try rfl); done)))
        | (apply x_guardS; (focus rfl); (fail_if_success (focus (show _ = some true; (focus (simp only [go_sem, *]; (try rfl); done))))); (focus (simp only [go_sem, *]; (try rfl); done)); all_goals (intro hb; try simp only [Bool.not_eq_true', Bool.not_eq_false'] at hb))
        | (apply x_condS; (focus (simp only [go_sem, *]; (try rfl); done)); all_goals (intro hb; try simp only [Bool.not_eq_true', Bool.not_eq_false'] at hb))
      (apply f_ret; iterate 7 (focus (simp only [go_sem, *, Tryz.results29]; (try rfl); done)))
      exact h
end Go.Proofs.YtnndmokndgnidaaGreatDoor
namespace Go.Proofs.YtnndmokndgnidaaGreatDoor
open Go Go.Fen
set_option linter.unusedSimpArgs false
set_option linter.unusedVariables false
attribute [local irreducible] RunX WP ACall AnyP OpA ProtL
set_option maxRecDepth 8000
def itEq (x y : It) : Bool := x.wait == y.wait && (x.kind == y.kind && (x.cols == y.cols && (x.rows == y.rows && x.text == y.text)))
theorem itEq_iff (x y : It) : itEq x y = true ↔ x = y := by
  cases x; cases y; simp [itEq]
def sameB (a b : Rec) : Bool := decide (a = b)
set_option maxHeartbeats 2000000 in
theorem refSame (w0 : World) (S : List Blk) (a b : Rec) (ha : (a.items.length : Int) < 9223372036854775807) (R : AOut → List Blk → Prop) (h : R (.ret (.bool (sameB a b))) S) :
    ACall Tryz.prog w0 16 [a.av, b.av] S R := by
  have hno : a.cols ≠ b.cols ∨ a.rows ≠ b.rows ∨ a.items.length ≠ b.items.length → sameB a b = false := by
    intro hh
    simp only [sameB, decide_eq_false_iff_not]
    rintro rfl
    simp at hh
  unfold Rec.av
  by_cases h0 : a.cols = b.cols ∧ a.rows = b.rows ∧ a.items.length = b.items.length
  · obtain ⟨h1, h2, h3⟩ := h0
    have e1 : (a.cols != b.cols) = false := by simp [h1]
    have e2 : (a.rows != b.rows) = false := by simp [h2]
    have e3 : ((a.items.length : Int) != (b.items.length : Int)) = false := by simp [h3]
    have H1 := Lib.hid h1
    have H2 := Lib.hid h2
    have H3 := Lib.hid h3
    clear h1 h2 h3 hno
    refine enter Tryz.func16 rfl (by decide +kernel) (by rw [Tryz.ntmps16]; simp) (by rw [Tryz.ntmps16]; decide) (fun hO => ?_); rw [Tryz.ntmps16]
    repeat' first
      | apply x_seq | apply x_skip | apply x_block | apply x_exit | apply x_ret | apply x_ops_nil | apply p_blk | apply p_exit_it | apply p_exit_hit | apply p_ret_it | apply p_ret_blk | apply p_panic_it | apply p_panic_blk | apply p_end
      | (apply p_exit_miss; (focus rfl))
      | (apply x_region; simp only [List.toList_toArray])
      | (apply x_step0; (focus rfl); (focus (simp only [go_sem, *]; (try rfl); done)); (focus rfl); simp only [putA])
      | (apply x_panic; (focus (simp only [go_sem, *]; (try rfl); done)); (focus rfl); (focus (simp only [go_sem, *]; (try rfl); done)))
      | (apply x_step; (iterate 2 (focus (simp only [go_sem, *]; (try rfl); done))); (focus rfl); simp only [putA])
      | (apply x_unwanted; (focus (simp only [go_sem, *]; (try rfl); done)); (focus rfl); simp only [putA])
      | (apply x_condT; (focus (simp only [go_sem, *]; (try rfl); done)))
      | (apply x_condF; (focus (simp only [go_sem, *]; (try rfl); done)))
      | (apply x_guardS; (focus rfl); (fail_if_success (focus (show _ = some true; (focus (simp only [go_sem, *]; (try rfl); done))))); (focus (simp only [go_sem, *]; (try rfl); done)); all_goals (intro hb; try simp only [Bool.not_eq_true', Bool.not_eq_false'] at hb))
      | (apply x_condS; (focus (simp only [go_sem, *]; (try rfl); done)); all_goals (intro hb; try simp only [Bool.not_eq_true', Bool.not_eq_false'] at hb))
    refine x_ind (fun (i : Nat) env S' => i ≤ a.items.length ∧ env 1000000 = .dfr [] ∧ env 2 = .own S.length 0 ∧ env 3 = .own (S.length + 1) 0 ∧ env 5 = .int .i64 (i : Int) ∧ S' = S ++ [Blk.cells [AV.int .i64 a.cols, AV.int .i64 a.rows, AV.sval false (List.map It.av a.items)], Blk.cells [AV.int .i64 b.cols, AV.int .i64 b.rows, AV.sval false (List.map It.av b.items)]] ∧
      ∀ j, j < i → a.items[j]? = b.items[j]?) (fun i => a.items.length - i) 0 ?_ ?_
    · exact ⟨Nat.zero_le _, by (simp only [go_sem, *]; try rfl), by (simp only [go_sem, *]; try rfl), by (simp only [go_sem, *]; try rfl), by (simp only [go_sem, *]; try rfl), rfl, by omega⟩
    · rintro i env S' ⟨hi, e0, f2, f3, f5, rfl, hall⟩ IH
      have HI := Lib.hid IH
      have Hall := Lib.hid hall
      clear IH hall
      by_cases hlt : i < a.items.length
      · obtain ⟨x, hx⟩ : ∃ x, a.items[i]? = some x := ⟨_, List.getElem?_eq_getElem hlt⟩
        obtain ⟨y, hy⟩ : ∃ y, b.items[i]? = some y := ⟨_, List.getElem?_eq_getElem (by have := H3.out; omega)⟩
        have h1 : decide ((i : Int) < (a.items.length : Int)) = true := by simpa using hlt
        have hw : IntKind.i64.wrap ((i : Int) + 1) = (i : Int) + 1 := IntWalk.i64_in _ (by omega)
        clear hlt hi ha
        repeat' first
          | apply x_seq | apply x_skip | apply x_block | apply x_exit | apply x_ret | apply x_ops_nil | apply p_blk | apply p_exit_it | apply p_exit_hit | apply p_ret_it | apply p_ret_blk | apply p_panic_it | apply p_panic_blk | apply p_end
          | (apply p_exit_miss; (focus rfl))
          | (apply x_region; simp only [List.toList_toArray])
          | (apply x_step0; (focus rfl); (focus (simp only [go_sem, *, It.av]; (try rfl); done)); (focus rfl); simp only [putA])
          | (apply x_panic; (focus (simp only [go_sem, *, It.av]; (try rfl); done)); (focus rfl); (focus (simp only [go_sem, *, It.av]; (try rfl); done)))
          | (apply x_step; (iterate 2 (focus (simp only [go_sem, *, It.av]; (try rfl); done))); (focus rfl); simp only [putA])
          | (apply x_unwanted; (focus (simp only [go_sem, *, It.av]; (try rfl); done)); (focus rfl); simp only [putA])
          | (apply x_condT; (focus (simp only [go_sem, *, It.av]; (try rfl); done)))
          | (apply x_condF; (focus (simp only [go_sem, *, It.av]; (try rfl); done)))
          | (apply x_guardS; (focus rfl); (fail_if_success (focus (show _ = some true; (focus (simp only [go_sem, *, It.av]; (try rfl); done))))); (focus (simp only [go_sem, *, It.av]; (try rfl); done)); all_goals (intro hb; try simp only [Bool.not_eq_true', Bool.not_eq_false'] at hb))
          | (apply x_condS; (focus (simp only [go_sem, *, It.av]; (try rfl); done)); all_goals (intro hb; try simp only [Bool.not_eq_true', Bool.not_eq_false'] at hb))
          | (apply d_draw; (focus exact mixed); (focus ((simp only [List.size_toArray, List.length_cons, List.length_nil, Nat.reduceAdd]; try rfl); done)))
          | (apply d_done; (focus decide +kernel))
          | ((first | (apply d_take 0; (focus decide +kernel)) | (apply d_take 1; (focus decide +kernel)) | (apply d_take 2; (focus decide +kernel)) | (apply d_take 3; (focus decide +kernel)) | (apply d_take 4; (focus decide +kernel)) | (apply d_take 5; (focus decide +kernel)) | (apply d_take 6; (focus decide +kernel)) | (apply d_take 7; (focus decide +kernel)) | (apply d_take 8; (focus decide +kernel)) | (apply d_take 9; (focus decide +kernel)) | (apply d_take 10; (focus decide +kernel)) | (apply d_take 11; (focus decide +kernel)) | (apply d_take 12; (focus decide +kernel)) | (apply d_take 13; (focus decide +kernel)) | (apply d_take 14; (focus decide +kernel)) | (apply d_take 15; (focus decide +kernel)) | (apply d_take 16; (focus decide +kernel)) | (apply d_take 17; (focus decide +kernel))); (focus (first | exact qds_FPost | exact qds_RPost | exact qds_YB | assumption)); (focus rfl); (iterate 3 (focus (simp only [go_sem, *, It.av]; (try rfl); done))); (focus rfl); (focus (simp only [go_sem, *, It.av]; (try rfl); done)); simp only [putA])
          | ((first | (apply d_unw 0; (focus decide +kernel)) | (apply d_unw 1; (focus decide +kernel)) | (apply d_unw 2; (focus decide +kernel)) | (apply d_unw 3; (focus decide +kernel)) | (apply d_unw 4; (focus decide +kernel)) | (apply d_unw 5; (focus decide +kernel)) | (apply d_unw 6; (focus decide +kernel)) | (apply d_unw 7; (focus decide +kernel)) | (apply d_unw 8; (focus decide +kernel)) | (apply d_unw 9; (focus decide +kernel)) | (apply d_unw 10; (focus decide +kernel)) | (apply d_unw 11; (focus decide +kernel)) | (apply d_unw 12; (focus decide +kernel)) | (apply d_unw 13; (focus decide +kernel)) | (apply d_unw 14; (focus decide +kernel)) | (apply d_unw 15; (focus decide +kernel)) | (apply d_unw 16; (focus decide +kernel)) | (apply d_unw 17; (focus decide +kernel))); (focus (first | exact qds_FPost | exact qds_RPost | exact qds_YB | assumption)); (focus rfl); (iterate 2 (focus (simp only [go_sem, *, It.av]; (try rfl); done))); (focus rfl); simp only [putA])
          | (first | (apply d_one 0; (focus decide +kernel)) | (apply d_one 1; (focus decide +kernel)) | (apply d_one 2; (focus decide +kernel)) | (apply d_one 3; (focus decide +kernel)) | (apply d_one 4; (focus decide +kernel)) | (apply d_one 5; (focus decide +kernel)) | (apply d_one 6; (focus decide +kernel)) | (apply d_one 7; (focus decide +kernel)) | (apply d_one 8; (focus decide +kernel)) | (apply d_one 9; (focus decide +kernel)) | (apply d_one 10; (focus decide +kernel)) | (apply d_one 11; (focus decide +kernel)) | (apply d_one 12; (focus decide +kernel)) | (apply d_one 13; (focus decide +kernel)) | (apply d_one 14; (focus decide +kernel)) | (apply d_one 15; (focus decide +kernel)) | (apply d_one 16; (focus decide +kernel)) | (apply d_one 17; (focus decide +kernel)))
          | (apply o_step; (iterate 3 (focus (simp only [go_sem, *, It.av]; (try rfl); done))); (focus rfl); simp only [putA])
          | (apply o_unw; (iterate 2 (focus (simp only [go_sem, *, It.av]; (try rfl); done))); (focus rfl); simp only [putA])
          | apply pr_nil | apply pr_same | apply pr_go | apply pl_nil | apply pl_none | (apply pl_skip; (focus decide +kernel)) | (apply pl_one; (focus (simp only [go_sem, *, It.av]; (try rfl); done)))
        · (apply f_ret; iterate 7 (focus (simp only [go_sem, *, Tryz.results16]; (try rfl); done)))
          have hf : sameB a b = false := by
            simp only [sameB, decide_eq_false_iff_not]
            rintro rfl
            rw [hx] at hy; cases hy
            simp at hb
          rw [hf] at h; exact h
        · have hxy : x = y := (itEq_iff x y).1 (by simpa [itEq] using hb)
          refine HI.out (i + 1) _ _ ?_ ⟨?_, ?_, ?_, ?_, ?_, rfl, ?_⟩
          · have := (List.getElem?_eq_some_iff.1 hx).1; omega
          · exact (List.getElem?_eq_some_iff.1 hx).1
          · (simp only [go_sem, *]; try rfl)
          · (simp only [go_sem, *]; try rfl)
          · (simp only [go_sem, *]; try rfl)
          · (simp only [go_sem, *]; try rfl)
          · intro j hj
            by_cases hji : j = i
            · subst hji; rw [hx, hy, hxy]
            · exact Hall.out j (by omega)
      · have h1 : decide ((i : Int) < (a.items.length : Int)) = false := by simpa using hlt
        have ht : sameB a b = true := by
          simp only [sameB, decide_eq_true_eq]
          have : a.items = b.items := List.ext_getElem? fun j => by
            by_cases hj : j < i
            · exact Hall.out j hj
            · have := H3.out
              rw [List.getElem?_eq_none (by omega), List.getElem?_eq_none (by omega)]
          cases a; cases b
          have q1 := H1.out; have q2 := H2.out
          simp_all
        clear hlt
        repeat' first
          | apply x_seq | apply x_skip | apply x_block | apply x_exit | apply x_ret | apply x_ops_nil | apply p_blk | apply p_exit_it | apply p_exit_hit | apply p_ret_it | apply p_ret_blk | apply p_panic_it | apply p_panic_blk | apply p_end
          | (apply p_exit_miss; (focus rfl))
          | (apply x_region; simp only [List.toList_toArray])
          | (apply x_step0; (focus rfl); (focus (simp only [go_sem, *]; (try rfl); done)); (focus rfl); simp only [putA])
          | (apply x_panic; (focus (simp only [go_sem, *]; (try rfl); done)); (focus rfl); (focus (simp only [go_sem, *]; (try rfl); done)))
          | (apply x_step; (iterate 2 (focus (simp only [go_sem, *]; (try rfl); done))); (focus rfl); simp only [putA])
          | (apply x_unwanted; (focus (simp only [go_sem, *]; (try rfl); done)); (focus rfl); simp only [putA])
          | (apply x_condT; (focus (simp only [go_sem, *]; (try rfl); done)))
          | (apply x_condF; (focus (simp only [go_sem, *]; (try rfl); done)))
          | (apply x_guardS; (focus rfl); (fail_if_success (focus (show _ = some true; (focus (simp only [go_sem, *]; (try rfl); done))))); (focus (simp only [go_sem, *]; (try rfl); done)); all_goals (intro hb; try simp only [Bool.not_eq_true', Bool.not_eq_false'] at hb))
          | (apply x_condS; (focus (simp only [go_sem, *]; (try rfl); done)); all_goals (intro hb; try simp only [Bool.not_eq_true', Bool.not_eq_false'] at hb))
        (apply f_ret; iterate 7 (focus (simp only [go_sem, *, Tryz.results16]; (try rfl); done)))
        rw [ht] at h; exact h
  · have e : ((a.cols != b.cols) = true ∨ (a.rows != b.rows) = true ∨ ((a.items.length : Int) != (b.items.length : Int)) = true) := by
      simp only [bne_iff_ne, ne_eq, Int.natCast_inj]
      by_cases q1 : a.cols = b.cols
      · by_cases q2 : a.rows = b.rows
        · exact .inr (.inr fun q3 => h0 ⟨q1, q2, q3⟩)
        · exact .inr (.inl q2)
      · exact .inl q1
    have hf : sameB a b = false := hno (by
      rcases e with e | e | e
      · exact .inl (by simpa using e)
      · exact .inr (.inl (by simpa using e))
      · exact .inr (.inr (by simp at e; omega)))
    rw [hf] at h
    clear h0 hno hf
    cases e1 : (a.cols != b.cols) with
    | true =>
      clear e
      refine enter Tryz.func16 rfl (by decide +kernel) (by rw [Tryz.ntmps16]; simp) (by rw [Tryz.ntmps16]; decide) (fun hO => ?_); rw [Tryz.ntmps16]
      repeat' first
        | apply x_seq | apply x_skip | apply x_block | apply x_exit | apply x_ret | apply x_ops_nil | apply p_blk | apply p_exit_it | apply p_exit_hit | apply p_ret_it | apply p_ret_blk | apply p_panic_it | apply p_panic_blk | apply p_end
        | (apply p_exit_miss; (focus rfl))
        | (apply x_region; simp only [List.toList_toArray])
        | (apply x_step0; (focus rfl); (focus (simp only [go_sem, *]; (try rfl); done)); (focus rfl); simp only [putA])
        | (apply x_panic; (focus (simp only [go_sem, *]; (try rfl); done)); (focus rfl); (focus (simp only [go_sem, *]; (try rfl); done)))
        | (apply x_step; (iterate 2 (focus (simp only [go_sem, *]; (try rfl); done))); (focus rfl); simp only [putA])
        | (apply x_unwanted; (focus (simp only [go_sem, *]; (try rfl); done)); (focus rfl); simp only [putA])
        | (apply x_condT; (focus (simp only [go_sem, *]; (try rfl); done)))
        | (apply x_condF; (focus (simp only [go_sem, *]; (try rfl); done)))
        | (apply x_guardS; (focus rfl); (fail_if_success (focus (show _ = some true; (focus (simp only [go_sem, *]; (try rfl); done))))); (focus (simp only [go_sem, *]; (try rfl); done)); all_goals (intro hb; try simp only [Bool.not_eq_true', Bool.not_eq_false'] at hb))
        | (apply x_condS; (focus (simp only [go_sem, *]; (try rfl); done)); all_goals (intro hb; try simp only [Bool.not_eq_true', Bool.not_eq_false'] at hb))
      (apply f_ret; iterate 7 (focus (simp only [go_sem, *, Tryz.results16]; (try rfl); done)))
      exact h
    | false =>
      cases e2 : (a.rows != b.rows) with
      | true =>
        clear e
        refine enter Tryz.func16 rfl (by decide +kernel) (by rw [Tryz.ntmps16]; simp) (by rw [Tryz.ntmps16]; decide) (fun hO => ?_); rw [Tryz.ntmps16]
        repeat' first
          | apply x_seq | apply x_skip | apply x_block | apply x_exit | apply x_ret | apply x_ops_nil | apply p_blk | apply p_exit_it | apply p_exit_hit | apply p_ret_it | apply p_ret_blk | apply p_panic_it | apply p_panic_blk | apply p_end
          | (apply p_exit_miss; (focus rfl))
          | (apply x_region; simp only [List.toList_toArray])
          | (apply x_step0; (focus rfl); (focus (simp only [go_sem, *]; (try rfl); done)); (focus rfl); simp only [putA])
          | (apply x_panic; (focus (simp only [go_sem, *]; (try rfl); done)); (focus rfl); (focus (simp only [go_sem, *]; (try rfl); done)))
          | (apply x_step; (iterate 2 (focus (simp only [go_sem, *]; (try rfl); done))); (focus rfl); simp only [putA])
          | (apply x_unwanted; (focus (simp only [go_sem, *]; (try rfl); done)); (focus rfl); simp only [putA])
          | (apply x_condT; (focus (simp only [go_sem, *]; (try rfl); done)))
          | (apply x_condF; (focus (simp only [go_sem, *]; (try rfl); done)))
          | (apply x_guardS; (focus rfl); (fail_if_success (focus (show _ = some true; (focus (simp only [go_sem, *]; (try rfl); done))))); (focus (simp only [go_sem, *]; (try rfl); done)); all_goals (intro hb; try simp only [Bool.not_eq_true', Bool.not_eq_false'] at hb))
          | (apply x_condS; (focus (simp only [go_sem, *]; (try rfl); done)); all_goals (intro hb; try simp only [Bool.not_eq_true', Bool.not_eq_false'] at hb))
        (apply f_ret; iterate 7 (focus (simp only [go_sem, *, Tryz.results16]; (try rfl); done)))
        exact h
      | false =>
        have e3 : ((a.items.length : Int) != (b.items.length : Int)) = true := by simpa [e1, e2] using e
        clear e
        refine enter Tryz.func16 rfl (by decide +kernel) (by rw [Tryz.ntmps16]; simp) (by rw [Tryz.ntmps16]; decide) (fun hO => ?_); rw [Tryz.ntmps16]
        repeat' first
          | apply x_seq | apply x_skip | apply x_block | apply x_exit | apply x_ret | apply x_ops_nil | apply p_blk | apply p_exit_it | apply p_exit_hit | apply p_ret_it | apply p_ret_blk | apply p_panic_it | apply p_panic_blk | apply p_end
          | (apply p_exit_miss; (focus rfl))
          | (apply x_region; simp only [List.toList_toArray])
          | (apply x_step0; (focus rfl); (focus (simp only [go_sem, *]; (try rfl); done)); (focus rfl); simp only [putA])
          | (apply x_panic; (focus (simp only [go_sem, *]; (try rfl); done)); (focus rfl); (focus (simp only [go_sem, *]; (try rfl); done)))
          | (apply x_step; (iterate 2 (focus (simp only [go_sem, *]; (try rfl); done))); (focus rfl); simp only [putA])
          | (apply x_unwanted; (focus (simp only [go_sem, *]; (try rfl); done)); (focus rfl); simp only [putA])
          | (apply x_condT; (focus (simp only [go_sem, *]; (try rfl); done)))
          | (apply x_condF; (focus (simp only [go_sem, *]; (try rfl); done)))
          | (apply x_guardS; (focus rfl); (fail_if_success (focus (show _ = some true; (focus (simp only [go_sem, *]; (try rfl); done))))); (focus (simp only [go_sem, *]; (try rfl); done)); all_goals (intro hb; try simp only [Bool.not_eq_true', Bool.not_eq_false'] at hb))
          | (apply x_condS; (focus (simp only [go_sem, *]; (try rfl); done)); all_goals (intro hb; try simp only [Bool.not_eq_true', Bool.not_eq_false'] at hb))
        (apply f_ret; iterate 7 (focus (simp only [go_sem, *, Tryz.results16]; (try rfl); done)))
        exact h
end Go.Proofs.YtnndmokndgnidaaGreatDoor
namespace Go.Proofs.YtnndmokndgnidaaGreatDoor
open Go Go.Fen
set_option linter.unusedSimpArgs false
set_option linter.unusedVariables false
attribute [local irreducible] RunX WP ACall AnyP OpA ProtL
set_option maxRecDepth 8000
end Go.Proofs.YtnndmokndgnidaaGreatDoor
namespace Go.Proofs.YtnndmokndgnidaaGreatDoor
open Go Go.Fen
set_option linter.unusedSimpArgs false
set_option linter.unusedVariables false
attribute [local irreducible] RunX WP ACall AnyP OpA ProtL
set_option maxRecDepth 8000
set_option maxHeartbeats 2000000 in
theorem long (w0 : World) (S : List Blk) (r : Rec) (hm : (r.items.length : Int) < 9223372036854775807) (R : AOut → List Blk → Prop) (h : R (.ret (if checkB r then .tup [.int .i64 (tmz r.items r.items.length), .int .i64 0] else .tup [.int .i64 0, .int .i64 520])) S) :
    ACall Tryz.prog w0 11 [r.av] S R := by
  have hck := fun S' => check w0 S' r hm
  cases hc : checkB r with
  | false =>
    simp only [hc, Bool.false_eq_true, if_false] at h hck
    unfold Rec.av at hck ⊢
    refine enter Tryz.func11 rfl (by decide +kernel) (by rw [Tryz.ntmps11]; simp) (by rw [Tryz.ntmps11]; decide) (fun hO => ?_); rw [Tryz.ntmps11]
    repeat' first
      | apply x_seq | apply x_skip | apply x_block | apply x_exit | apply x_ret | apply x_ops_nil | apply p_blk | apply p_exit_it | apply p_exit_hit | apply p_ret_it | apply p_ret_blk | apply p_panic_it | apply p_panic_blk | apply p_end
      | (apply p_exit_miss; (focus rfl))
      | (apply x_region; simp only [List.toList_toArray])
      | (apply x_step0; (focus rfl); (focus (simp only [go_sem, *]; (try rfl); done)); (focus rfl); simp only [putA])
      | (apply x_callA []; (focus (simp only [go_sem, *]; (try rfl); done)); (focus rfl); (focus (simp only [go_sem, *]; (try rfl); done)); (focus rfl); (iterate 2 (focus (simp only [go_sem, *]; (try rfl); done))); (first | (apply hck)); simp only [afterCall, putA])
      | (apply x_panic; (focus (simp only [go_sem, *]; (try rfl); done)); (focus rfl); (focus (simp only [go_sem, *]; (try rfl); done)))
      | (apply x_step; (iterate 2 (focus (simp only [go_sem, *]; (try rfl); done))); (focus rfl); simp only [putA])
      | (apply x_unwanted; (focus (simp only [go_sem, *]; (try rfl); done)); (focus rfl); simp only [putA])
      | (apply x_condT; (focus (simp only [go_sem, *]; (try rfl); done)))
      | (apply x_condF; (focus (simp only [go_sem, *]; (try rfl); done)))
      | (apply x_guardS; (focus rfl); (fail_if_success (focus (show _ = some true; (focus (simp only [go_sem, *]; (try rfl); done))))); (focus (simp only [go_sem, *]; (try rfl); done)); all_goals (intro hb; try simp only [Bool.not_eq_true', Bool.not_eq_false'] at hb))
      | (apply x_condS; (focus (simp only [go_sem, *]; (try rfl); done)); all_goals (intro hb; try simp only [Bool.not_eq_true', Bool.not_eq_false'] at hb))
    (apply f_ret; iterate 7 (focus (simp only [go_sem, *, Tryz.results11]; (try rfl); done)))
    exact h
  | true =>
    simp only [hc, if_true] at h hck
    have hw := waits_of hc
    clear hc
    unfold Rec.av at hck ⊢
    refine enter Tryz.func11 rfl (by decide +kernel) (by rw [Tryz.ntmps11]; simp) (by rw [Tryz.ntmps11]; decide) (fun hO => ?_); rw [Tryz.ntmps11]
    repeat' first
      | apply x_seq | apply x_skip | apply x_block | apply x_exit | apply x_ret | apply x_ops_nil | apply p_blk | apply p_exit_it | apply p_exit_hit | apply p_ret_it | apply p_ret_blk | apply p_panic_it | apply p_panic_blk | apply p_end
      | (apply p_exit_miss; (focus rfl))
      | (apply x_region; simp only [List.toList_toArray])
      | (apply x_step0; (focus rfl); (focus (simp only [go_sem, *]; (try rfl); done)); (focus rfl); simp only [putA])
      | (apply x_callA []; (focus (simp only [go_sem, *]; (try rfl); done)); (focus rfl); (focus (simp only [go_sem, *]; (try rfl); done)); (focus rfl); (iterate 2 (focus (simp only [go_sem, *]; (try rfl); done))); (first | (apply hck) | (apply timed)); simp only [afterCall, putA])
      | (apply x_panic; (focus (simp only [go_sem, *]; (try rfl); done)); (focus rfl); (focus (simp only [go_sem, *]; (try rfl); done)))
      | (apply x_step; (iterate 2 (focus (simp only [go_sem, *]; (try rfl); done))); (focus rfl); simp only [putA])
      | (apply x_unwanted; (focus (simp only [go_sem, *]; (try rfl); done)); (focus rfl); simp only [putA])
      | (apply x_condT; (focus (simp only [go_sem, *]; (try rfl); done)))
      | (apply x_condF; (focus (simp only [go_sem, *]; (try rfl); done)))
      | (apply x_guardS; (focus rfl); (fail_if_success (focus (show _ = some true; (focus (simp only [go_sem, *]; (try rfl); done))))); (focus (simp only [go_sem, *]; (try rfl); done)); all_goals (intro hb; try simp only [Bool.not_eq_true', Bool.not_eq_false'] at hb))
      | (apply x_condS; (focus (simp only [go_sem, *]; (try rfl); done)); all_goals (intro hb; try simp only [Bool.not_eq_true', Bool.not_eq_false'] at hb))
    apply x_rangeL [2]
    · (simp only [go_sem, *, timedV]; try rfl)
    · (simp only [go_sem, *]; try rfl)
    · rfl
    · (simp only [go_sem, *]; try rfl)
    · (simp only [go_sem, *]; try rfl)
    intro LB hLB
    have hLB2 : ∀ m, LB.ltB (S.length + (2 + m)) = true := by intro m; rw [hLB]; (simp only [go_sem, *]; try rfl); simp; omega
    have HLB := Lib.hid hLB
    clear hLB
    refine timed1 w0 r hw (S.length + 3) (S.length + 4) (by simp) (fun k S' => S' = S ++ [Blk.cells [AV.int .i64 r.cols, AV.int .i64 r.rows, AV.sval false (List.map It.av r.items)], Blk.cells [.int .i64 (tmz r.items k)], Blk.obj (Obj.deferred (some [])), LB]) (fun _ _ => False) ?_ (fun _ _ hf => hf.elim) ?_ _ ?_ _ ?_ (fun _ _ hf => hf.elim)
    · rintro k _ rfl
      have h7 := hLB2 2
      refine ⟨by simp, OuterOk.app hO ?_⟩
      (simp only [go_sem, *]; try rfl)
    · rintro k _ x rfl hx E R' hR1 _
      apply ya_intro HLB.out
      · (simp only [go_sem, *]; try rfl)
      · rfl
      · decide
      · rfl
      · rfl
      · (simp only [go_sem, *]; try rfl)
      intro rb BB hBB
      have HBB := Lib.hid hBB
      clear hBB
      repeat' first
        | apply x_seq | apply x_skip | apply x_block | apply x_exit | apply x_ret | apply x_ops_nil | apply p_blk | apply p_exit_it | apply p_exit_hit | apply p_ret_it | apply p_ret_blk | apply p_panic_it | apply p_panic_blk | apply p_end
        | (apply p_exit_miss; (focus rfl))
        | (apply x_region; simp only [List.toList_toArray])
        | (apply x_step0; (focus rfl); (focus (simp only [go_sem, *, It.av]; (try rfl); done)); (focus rfl); simp only [putA])
        | (apply x_panic; (focus (simp only [go_sem, *, It.av]; (try rfl); done)); (focus rfl); (focus (simp only [go_sem, *, It.av]; (try rfl); done)))
        | (apply x_step; (iterate 2 (focus (simp only [go_sem, *, It.av]; (try rfl); done))); (focus rfl); simp only [putA])
        | (apply x_unwanted; (focus (simp only [go_sem, *, It.av]; (try rfl); done)); (focus rfl); simp only [putA])
        | (apply x_condT; (focus (simp only [go_sem, *, It.av]; (try rfl); done)))
        | (apply x_condF; (focus (simp only [go_sem, *, It.av]; (try rfl); done)))
        | (apply x_guardS; (focus rfl); (fail_if_success (focus (show _ = some true; (focus (simp only [go_sem, *, It.av]; (try rfl); done))))); (focus (simp only [go_sem, *, It.av]; (try rfl); done)); all_goals (intro hb; try simp only [Bool.not_eq_true', Bool.not_eq_false'] at hb))
        | (apply x_condS; (focus (simp only [go_sem, *, It.av]; (try rfl); done)); all_goals (intro hb; try simp only [Bool.not_eq_true', Bool.not_eq_false'] at hb))
      apply yb_intro
      · (simp only [go_sem, *]; try rfl)
      · (simp only [go_sem, *]; try rfl)
      repeat' first
        | apply x_seq | apply x_skip | apply x_block | apply x_exit | apply x_ret | apply x_ops_nil | apply p_blk | apply p_exit_it | apply p_exit_hit | apply p_ret_it | apply p_ret_blk | apply p_panic_it | apply p_panic_blk | apply p_end
        | (apply p_exit_miss; (focus rfl))
        | (apply x_region; simp only [List.toList_toArray])
        | (apply x_step0; (focus rfl); (focus (simp only [go_sem, *, It.av]; (try rfl); done)); (focus rfl); simp only [putA])
        | (apply x_panic; (focus (simp only [go_sem, *, It.av]; (try rfl); done)); (focus rfl); (focus (simp only [go_sem, *, It.av]; (try rfl); done)))
        | (apply x_step; (iterate 2 (focus (simp only [go_sem, *, It.av]; (try rfl); done))); (focus rfl); simp only [putA])
        | (apply x_unwanted; (focus (simp only [go_sem, *, It.av]; (try rfl); done)); (focus rfl); simp only [putA])
        | (apply x_condT; (focus (simp only [go_sem, *, It.av]; (try rfl); done)))
        | (apply x_condF; (focus (simp only [go_sem, *, It.av]; (try rfl); done)))
        | (apply x_guardS; (focus rfl); (fail_if_success (focus (show _ = some true; (focus (simp only [go_sem, *, It.av]; (try rfl); done))))); (focus (simp only [go_sem, *, It.av]; (try rfl); done)); all_goals (intro hb; try simp only [Bool.not_eq_true', Bool.not_eq_false'] at hb))
        | (apply x_condS; (focus (simp only [go_sem, *, It.av]; (try rfl); done)); all_goals (intro hb; try simp only [Bool.not_eq_true', Bool.not_eq_false'] at hb))
      apply rp_n HLB.out HBB.out
      · (simp only [go_sem, *]; try rfl)
      · (simp only [go_sem, *]; try rfl)
      have key := hR1 _ [] rfl
      simpa only [app_assoc, List.cons_append, List.nil_append, List.append_nil] using key
    · simp only [app_assoc, List.cons_append, List.nil_append, tmz, List.take_zero, List.map_nil, List.sum_nil]
    · rintro _ rfl
      apply ar_none HLB.out rfl
      · (simp only [go_sem, *]; try rfl)
      · (simp only [go_sem, *]; try rfl)
      repeat' first
        | apply x_seq | apply x_skip | apply x_block | apply x_exit | apply x_ret | apply x_ops_nil | apply p_blk | apply p_exit_it | apply p_exit_hit | apply p_ret_it | apply p_ret_blk | apply p_panic_it | apply p_panic_blk | apply p_end
        | (apply p_exit_miss; (focus rfl))
        | (apply x_region; simp only [List.toList_toArray])
        | (apply x_step0; (focus rfl); (focus (simp only [go_sem, *]; (try rfl); done)); (focus rfl); simp only [putA])
        | (apply x_panic; (focus (simp only [go_sem, *]; (try rfl); done)); (focus rfl); (focus (simp only [go_sem, *]; (try rfl); done)))
        | (apply x_step; (iterate 2 (focus (simp only [go_sem, *]; (try rfl); done))); (focus rfl); simp only [putA])
        | (apply x_unwanted; (focus (simp only [go_sem, *]; (try rfl); done)); (focus rfl); simp only [putA])
        | (apply x_condT; (focus (simp only [go_sem, *]; (try rfl); done)))
        | (apply x_condF; (focus (simp only [go_sem, *]; (try rfl); done)))
        | (apply x_guardS; (focus rfl); (fail_if_success (focus (show _ = some true; (focus (simp only [go_sem, *]; (try rfl); done))))); (focus (simp only [go_sem, *]; (try rfl); done)); all_goals (intro hb; try simp only [Bool.not_eq_true', Bool.not_eq_false'] at hb))
        | (apply x_condS; (focus (simp only [go_sem, *]; (try rfl); done)); all_goals (intro hb; try simp only [Bool.not_eq_true', Bool.not_eq_false'] at hb))
      (apply f_ret; iterate 7 (focus (simp only [go_sem, *, Tryz.results11]; (try rfl); done)))
      exact h
end Go.Proofs.YtnndmokndgnidaaGreatDoor
namespace Go.Proofs.YtnndmokndgnidaaGreatDoor
open Go Go.Fen
set_option linter.unusedSimpArgs false
set_option linter.unusedVariables false
attribute [local irreducible] RunX WP ACall AnyP OpA ProtL
set_option maxRecDepth 8000
def Done (c : Code) (DB : Blk) : Prop := ∃ N tm ps asg body, DB = .loop .done (some c) N tm ps asg body
theorem rp_eL {a N id m : Nat} {S : List Blk} {R : AOut → List Blk → Prop} {env : Env} {LB BB : Blk} {tm : List (Nat × AV)} {ps : Array Tmp} {asg body : Code} (hLB : LB = .loop .ready none N tm ps asg body) (hBB : BB = .loop .busy none N tm ps asg body) (hlt : LB.ltB m = true) (h : S[a]? = some BB)
    (h2 : ∀ DB, Done (.exit id) DB → DB.ltB m = true → R (.ret (.bool false)) (S.set a DB)) : RPost a R (.exit id) env S := by
  subst hLB hBB
  exact ⟨_, _, N, tm, ps, asg, body, h, h2 _ ⟨N, tm, ps, asg, body, rfl⟩ hlt⟩
theorem rp_rL {a N m : Nat} {S : List Blk} {R : AOut → List Blk → Prop} {env : Env} {LB BB : Blk} {tm : List (Nat × AV)} {ps : Array Tmp} {asg body : Code} (hLB : LB = .loop .ready none N tm ps asg body) (hBB : BB = .loop .busy none N tm ps asg body) (hlt : LB.ltB m = true) (h : S[a]? = some BB)
    (h2 : ∀ DB, Done .ret DB → DB.ltB m = true → R (.ret (.bool false)) (S.set a DB)) : RPost a R .ret env S := by
  subst hLB hBB
  exact ⟨_, _, N, tm, ps, asg, body, h, h2 _ ⟨N, tm, ps, asg, body, rfl⟩ hlt⟩
theorem ar_someL {P : Program} {w0 : World} {S : List Blk} {n0 N m : Nat} {k : List TI} {Q : APost} {env : Env} {v : AV} {DB : Blk} {c : Code} (hD : Done c DB) (hS : S[m]? = some DB)
    (h : ∀ XB, RunX P w0 n0 N none (.it (.code c) :: k) Q .normal env (S.set m XB)) : afterRange P w0 n0 N m k Q env (.ret v) S := by
  obtain ⟨N', tm, ps, asg, body, rfl⟩ := hD
  exact ⟨.done, some c, N', tm, ps, asg, body, hS, rfl, h _⟩
def UpTo (l : List It) (t : Int) (n : Nat) : Prop := (∀ j, j < n → tmz l (j + 1) ≤ t) ∧ n ≤ l.length ∧ (n < l.length → t < tmz l (n + 1))
set_option maxHeartbeats 2000000 in
theorem uptoR (w0 : World) (S : List Blk) (r : Rec) (hm : (r.items.length : Int) < 9223372036854775807) (t : Int) (n : Nat) (hc : checkB r = true) (hn : UpTo r.items t n) (R : AOut → List Blk → Prop) (h : R (.ret (.tup [.int .i64 n, .int .i64 0])) S) :
    ACall Tryz.prog w0 17 [r.av, .int .i64 t] S R := by
  have hck := fun S' => check w0 S' r hm
  simp only [hc, if_true] at hck
  have hw := waits_of hc
  clear hc
  unfold Rec.av at hck ⊢
  refine enter Tryz.func17 rfl (by decide +kernel) (by rw [Tryz.ntmps17]; simp) (by rw [Tryz.ntmps17]; decide) (fun hO => ?_); rw [Tryz.ntmps17]
  repeat' first
    | apply x_seq | apply x_skip | apply x_block | apply x_exit | apply x_ret | apply x_ops_nil | apply p_blk | apply p_exit_it | apply p_exit_hit | apply p_ret_it | apply p_ret_blk | apply p_panic_it | apply p_panic_blk | apply p_end
    | (apply p_exit_miss; (focus rfl))
    | (apply x_region; simp only [List.toList_toArray])
    | (apply x_step0; (focus rfl); (focus (simp only [go_sem, *]; (try rfl); done)); (focus rfl); simp only [putA])
    | (apply x_callA []; (focus (simp only [go_sem, *]; (try rfl); done)); (focus rfl); (focus (simp only [go_sem, *]; (try rfl); done)); (focus rfl); (iterate 2 (focus (simp only [go_sem, *]; (try rfl); done))); (first | (apply hck) | (apply timed)); simp only [afterCall, putA])
    | (apply x_panic; (focus (simp only [go_sem, *]; (try rfl); done)); (focus rfl); (focus (simp only [go_sem, *]; (try rfl); done)))
    | (apply x_step; (iterate 2 (focus (simp only [go_sem, *]; (try rfl); done))); (focus rfl); simp only [putA])
    | (apply x_unwanted; (focus (simp only [go_sem, *]; (try rfl); done)); (focus rfl); simp only [putA])
    | (apply x_condT; (focus (simp only [go_sem, *]; (try rfl); done)))
    | (apply x_condF; (focus (simp only [go_sem, *]; (try rfl); done)))
    | (apply x_guardS; (focus rfl); (fail_if_success (focus (show _ = some true; (focus (simp only [go_sem, *]; (try rfl); done))))); (focus (simp only [go_sem, *]; (try rfl); done)); all_goals (intro hb; try simp only [Bool.not_eq_true', Bool.not_eq_false'] at hb))
    | (apply x_condS; (focus (simp only [go_sem, *]; (try rfl); done)); all_goals (intro hb; try simp only [Bool.not_eq_true', Bool.not_eq_false'] at hb))
  apply x_rangeL [3, 4]
  · (simp only [go_sem, *, timedV]; try rfl)
  · (simp only [go_sem, *]; try rfl)
  · rfl
  · (simp only [go_sem, *]; try rfl)
  · (simp only [go_sem, *]; try rfl)
  intro LB hLB
  have hLB2 : ∀ m, LB.ltB (S.length + (3 + m)) = true := by intro m; rw [hLB]; (simp only [go_sem, *]; try rfl); simp; omega
  have HLB := Lib.hid hLB
  clear hLB
  have HW := Lib.hid hw
  have HN := Lib.hid hn
  clear hn
  refine timed1 w0 r hw (S.length + 4) (S.length + 5) (by simp) (fun k S' => k ≤ n ∧ S' = S ++ [Blk.cells [AV.int .i64 r.cols, AV.int .i64 r.rows, AV.sval false (List.map It.av r.items)], Blk.cells [.int .i64 t], Blk.cells [.int .i64 (k : Int)], Blk.obj (Obj.deferred (some [])), LB])
    (fun k S' => ∃ DB, Done (.exit 0) DB ∧ DB.ltB (S.length + 5) = true ∧ S' = S ++ [Blk.cells [AV.int .i64 r.cols, AV.int .i64 r.rows, AV.sval false (List.map It.av r.items)], Blk.cells [.int .i64 t], Blk.cells [.int .i64 (n : Int)], Blk.obj (Obj.deferred (some [])), DB]) ?_ ?_ ?_ _ ?_ _ ?_ ?_
  · rintro k _ ⟨_, rfl⟩
    have h7 := hLB2 2
    refine ⟨by simp, OuterOk.app hO ?_⟩
    (simp only [go_sem, *]; try rfl)
  · rintro k _ ⟨DB, hDB, h7, rfl⟩
    clear hDB
    refine ⟨by simp, OuterOk.app hO ?_⟩
    (simp only [go_sem, *]; try rfl)
  · rintro k _ x ⟨hkn, rfl⟩ hx E R' hR1 hR2
    have hkl : k < r.items.length := (List.getElem?_eq_some_iff.1 hx).1
    have hwk : IntKind.i64.wrap ((k : Int) + 1) = (k : Int) + 1 := IntWalk.i64_in _ (by have := HW.out.1; omega)
    have h7 := hLB2 2
    apply ya_intro HLB.out
    · (simp only [go_sem, *]; try rfl)
    · rfl
    · decide
    · rfl
    · rfl
    · (simp only [go_sem, *]; try rfl)
    intro rb BB hBB
    have HBB := Lib.hid hBB
    clear hBB
    by_cases hk : k < n
    · have hd : decide (t < tmz r.items (k + 1)) = false := by
        have := HN.out.1 k hk
        simp; omega
      have Hk := Lib.hid hk
      clear hk hkn hkl
      repeat' first
        | apply x_seq | apply x_skip | apply x_block | apply x_exit | apply x_ret | apply x_ops_nil | apply p_blk | apply p_exit_it | apply p_exit_hit | apply p_ret_it | apply p_ret_blk | apply p_panic_it | apply p_panic_blk | apply p_end
        | (apply p_exit_miss; (focus rfl))
        | (apply x_region; simp only [List.toList_toArray])
        | (apply x_step0; (focus rfl); (focus (simp only [go_sem, *, It.av]; (try rfl); done)); (focus rfl); simp only [putA])
        | (apply x_panic; (focus (simp only [go_sem, *, It.av]; (try rfl); done)); (focus rfl); (focus (simp only [go_sem, *, It.av]; (try rfl); done)))
        | (apply x_step; (iterate 2 (focus (simp only [go_sem, *, It.av]; (try rfl); done))); (focus rfl); simp only [putA])
        | (apply x_unwanted; (focus (simp only [go_sem, *, It.av]; (try rfl); done)); (focus rfl); simp only [putA])
        | (apply x_condT; (focus (simp only [go_sem, *, It.av]; (try rfl); done)))
        | (apply x_condF; (focus (simp only [go_sem, *, It.av]; (try rfl); done)))
        | (apply x_guardS; (focus rfl); (fail_if_success (focus (show _ = some true; (focus (simp only [go_sem, *, It.av]; (try rfl); done))))); (focus (simp only [go_sem, *, It.av]; (try rfl); done)); all_goals (intro hb; try simp only [Bool.not_eq_true', Bool.not_eq_false'] at hb))
        | (apply x_condS; (focus (simp only [go_sem, *, It.av]; (try rfl); done)); all_goals (intro hb; try simp only [Bool.not_eq_true', Bool.not_eq_false'] at hb))
      apply yb_intro
      · (simp only [go_sem, *]; try rfl)
      · (simp only [go_sem, *]; try rfl)
      repeat' first
        | apply x_seq | apply x_skip | apply x_block | apply x_exit | apply x_ret | apply x_ops_nil | apply p_blk | apply p_exit_it | apply p_exit_hit | apply p_ret_it | apply p_ret_blk | apply p_panic_it | apply p_panic_blk | apply p_end
        | (apply p_exit_miss; (focus rfl))
        | (apply x_region; simp only [List.toList_toArray])
        | (apply x_step0; (focus rfl); (focus (simp only [go_sem, *, It.av]; (try rfl); done)); (focus rfl); simp only [putA])
        | (apply x_panic; (focus (simp only [go_sem, *, It.av]; (try rfl); done)); (focus rfl); (focus (simp only [go_sem, *, It.av]; (try rfl); done)))
        | (apply x_step; (iterate 2 (focus (simp only [go_sem, *, It.av]; (try rfl); done))); (focus rfl); simp only [putA])
        | (apply x_unwanted; (focus (simp only [go_sem, *, It.av]; (try rfl); done)); (focus rfl); simp only [putA])
        | (apply x_condT; (focus (simp only [go_sem, *, It.av]; (try rfl); done)))
        | (apply x_condF; (focus (simp only [go_sem, *, It.av]; (try rfl); done)))
        | (apply x_guardS; (focus rfl); (fail_if_success (focus (show _ = some true; (focus (simp only [go_sem, *, It.av]; (try rfl); done))))); (focus (simp only [go_sem, *, It.av]; (try rfl); done)); all_goals (intro hb; try simp only [Bool.not_eq_true', Bool.not_eq_false'] at hb))
        | (apply x_condS; (focus (simp only [go_sem, *, It.av]; (try rfl); done)); all_goals (intro hb; try simp only [Bool.not_eq_true', Bool.not_eq_false'] at hb))
      apply rp_n HLB.out HBB.out
      · (simp only [go_sem, *]; try rfl)
      · (simp only [go_sem, *]; try rfl)
      have key := hR1 _ [] ⟨Hk.out, rfl⟩
      rw [show ((k + 1 : Nat) : Int) = (k : Int) + 1 by omega] at key
      simpa only [app_assoc, List.cons_append, List.nil_append, List.append_nil] using key
    · have Hk := Lib.hid (show k = n by omega)
      have hd : decide (t < tmz r.items (k + 1)) = true := by
        have := HN.out.2.2 (by rw [← Hk.out]; exact hkl)
        rw [Hk.out]; simp; omega
      clear hk hkn hkl
      repeat' first
        | apply x_seq | apply x_skip | apply x_block | apply x_exit | apply x_ret | apply x_ops_nil | apply p_blk | apply p_exit_it | apply p_exit_hit | apply p_ret_it | apply p_ret_blk | apply p_panic_it | apply p_panic_blk | apply p_end
        | (apply p_exit_miss; (focus rfl))
        | (apply x_region; simp only [List.toList_toArray])
        | (apply x_step0; (focus rfl); (focus (simp only [go_sem, *, It.av]; (try rfl); done)); (focus rfl); simp only [putA])
        | (apply x_panic; (focus (simp only [go_sem, *, It.av]; (try rfl); done)); (focus rfl); (focus (simp only [go_sem, *, It.av]; (try rfl); done)))
        | (apply x_step; (iterate 2 (focus (simp only [go_sem, *, It.av]; (try rfl); done))); (focus rfl); simp only [putA])
        | (apply x_unwanted; (focus (simp only [go_sem, *, It.av]; (try rfl); done)); (focus rfl); simp only [putA])
        | (apply x_condT; (focus (simp only [go_sem, *, It.av]; (try rfl); done)))
        | (apply x_condF; (focus (simp only [go_sem, *, It.av]; (try rfl); done)))
        | (apply x_guardS; (focus rfl); (fail_if_success (focus (show _ = some true; (focus (simp only [go_sem, *, It.av]; (try rfl); done))))); (focus (simp only [go_sem, *, It.av]; (try rfl); done)); all_goals (intro hb; try simp only [Bool.not_eq_true', Bool.not_eq_false'] at hb))
        | (apply x_condS; (focus (simp only [go_sem, *, It.av]; (try rfl); done)); all_goals (intro hb; try simp only [Bool.not_eq_true', Bool.not_eq_false'] at hb))
      apply yb_intro
      · (simp only [go_sem, *]; try rfl)
      · (simp only [go_sem, *]; try rfl)
      repeat' first
        | apply x_seq | apply x_skip | apply x_block | apply x_exit | apply x_ret | apply x_ops_nil | apply p_blk | apply p_exit_it | apply p_exit_hit | apply p_ret_it | apply p_ret_blk | apply p_panic_it | apply p_panic_blk | apply p_end
        | (apply p_exit_miss; (focus rfl))
        | (apply x_region; simp only [List.toList_toArray])
        | (apply x_step0; (focus rfl); (focus (simp only [go_sem, *, It.av]; (try rfl); done)); (focus rfl); simp only [putA])
        | (apply x_panic; (focus (simp only [go_sem, *, It.av]; (try rfl); done)); (focus rfl); (focus (simp only [go_sem, *, It.av]; (try rfl); done)))
        | (apply x_step; (iterate 2 (focus (simp only [go_sem, *, It.av]; (try rfl); done))); (focus rfl); simp only [putA])
        | (apply x_unwanted; (focus (simp only [go_sem, *, It.av]; (try rfl); done)); (focus rfl); simp only [putA])
        | (apply x_condT; (focus (simp only [go_sem, *, It.av]; (try rfl); done)))
        | (apply x_condF; (focus (simp only [go_sem, *, It.av]; (try rfl); done)))
        | (apply x_guardS; (focus rfl); (fail_if_success (focus (show _ = some true; (focus (simp only [go_sem, *, It.av]; (try rfl); done))))); (focus (simp only [go_sem, *, It.av]; (try rfl); done)); all_goals (intro hb; try simp only [Bool.not_eq_true', Bool.not_eq_false'] at hb))
        | (apply x_condS; (focus (simp only [go_sem, *, It.av]; (try rfl); done)); all_goals (intro hb; try simp only [Bool.not_eq_true', Bool.not_eq_false'] at hb))
      refine rp_eL HLB.out HBB.out h7 (by (simp only [go_sem, *]; try rfl)) ?_
      intro DB hDB hlt
      have key := hR2 _ [] ⟨DB, hDB, hlt, rfl⟩
      simp only [app_assoc, List.cons_append, List.nil_append, set_new, List.set_cons_succ, List.set_cons_zero]
      rw [Hk.out]
      simpa only [app_assoc, List.cons_append, List.nil_append, List.append_nil] using key
  · refine ⟨Nat.zero_le _, ?_⟩
    simp only [app_assoc, List.cons_append, List.nil_append]
    rfl
  · rintro _ ⟨hk, rfl⟩
    have he : r.items.length = n := by have := HN.out.2.1; omega
    rw [he]
    clear hk he
    apply ar_none HLB.out rfl
    · (simp only [go_sem, *]; try rfl)
    · (simp only [go_sem, *]; try rfl)
    repeat' first
      | apply x_seq | apply x_skip | apply x_block | apply x_exit | apply x_ret | apply x_ops_nil | apply p_blk | apply p_exit_it | apply p_exit_hit | apply p_ret_it | apply p_ret_blk | apply p_panic_it | apply p_panic_blk | apply p_end
      | (apply p_exit_miss; (focus rfl))
      | (apply x_region; simp only [List.toList_toArray])
      | (apply x_step0; (focus rfl); (focus (simp only [go_sem, *]; (try rfl); done)); (focus rfl); simp only [putA])
      | (apply x_panic; (focus (simp only [go_sem, *]; (try rfl); done)); (focus rfl); (focus (simp only [go_sem, *]; (try rfl); done)))
      | (apply x_step; (iterate 2 (focus (simp only [go_sem, *]; (try rfl); done))); (focus rfl); simp only [putA])
      | (apply x_unwanted; (focus (simp only [go_sem, *]; (try rfl); done)); (focus rfl); simp only [putA])
      | (apply x_condT; (focus (simp only [go_sem, *]; (try rfl); done)))
      | (apply x_condF; (focus (simp only [go_sem, *]; (try rfl); done)))
      | (apply x_guardS; (focus rfl); (fail_if_success (focus (show _ = some true; (focus (simp only [go_sem, *]; (try rfl); done))))); (focus (simp only [go_sem, *]; (try rfl); done)); all_goals (intro hb; try simp only [Bool.not_eq_true', Bool.not_eq_false'] at hb))
      | (apply x_condS; (focus (simp only [go_sem, *]; (try rfl); done)); all_goals (intro hb; try simp only [Bool.not_eq_true', Bool.not_eq_false'] at hb))
    (apply f_ret; iterate 7 (focus (simp only [go_sem, *, Tryz.results17]; (try rfl); done)))
    exact h
  · rintro k _ ⟨DB, hDB, h7, rfl⟩
    refine ar_someL hDB (by (simp only [go_sem, *]; try rfl)) ?_
    intro XB
    simp only [len_app, List.length_cons, List.length_nil, Nat.zero_add, len_add, Nat.reduceAdd, app_assoc, List.cons_append, List.nil_append, set_new, List.set_cons_succ, List.set_cons_zero]
    repeat' first
      | apply x_seq | apply x_skip | apply x_block | apply x_exit | apply x_ret | apply x_ops_nil | apply p_blk | apply p_exit_it | apply p_exit_hit | apply p_ret_it | apply p_ret_blk | apply p_panic_it | apply p_panic_blk | apply p_end
      | (apply p_exit_miss; (focus rfl))
      | (apply x_region; simp only [List.toList_toArray])
      | (apply x_step0; (focus rfl); (focus (simp only [go_sem, *]; (try rfl); done)); (focus rfl); simp only [putA])
      | (apply x_panic; (focus (simp only [go_sem, *]; (try rfl); done)); (focus rfl); (focus (simp only [go_sem, *]; (try rfl); done)))
      | (apply x_step; (iterate 2 (focus (simp only [go_sem, *]; (try rfl); done))); (focus rfl); simp only [putA])
      | (apply x_unwanted; (focus (simp only [go_sem, *]; (try rfl); done)); (focus rfl); simp only [putA])
      | (apply x_condT; (focus (simp only [go_sem, *]; (try rfl); done)))
      | (apply x_condF; (focus (simp only [go_sem, *]; (try rfl); done)))
      | (apply x_guardS; (focus rfl); (fail_if_success (focus (show _ = some true; (focus (simp only [go_sem, *]; (try rfl); done))))); (focus (simp only [go_sem, *]; (try rfl); done)); all_goals (intro hb; try simp only [Bool.not_eq_true', Bool.not_eq_false'] at hb))
      | (apply x_condS; (focus (simp only [go_sem, *]; (try rfl); done)); all_goals (intro hb; try simp only [Bool.not_eq_true', Bool.not_eq_false'] at hb))
    (apply f_ret; iterate 7 (focus (simp only [go_sem, *, Tryz.results17]; (try rfl); done)))
    exact h
end Go.Proofs.YtnndmokndgnidaaGreatDoor
namespace Go.Proofs.YtnndmokndgnidaaGreatDoor
open Go Go.Fen
set_option linter.unusedSimpArgs false
set_option linter.unusedVariables false
attribute [local irreducible] RunX WP ACall AnyP OpA ProtL
set_option maxRecDepth 8000
def cutL (f m : Int) : List It → Int → Int → Int → List It → Rec
  | [], _, c, r, o => ⟨c, r, o⟩
  | x :: l, n, c, r, o =>
    if m ≤ n + x.wait then ⟨c, r, o⟩
    else if n + x.wait < f ∧ x.kind = 3 then cutL f m l (n + x.wait) x.cols x.rows o
    else if f ≤ n + x.wait then cutL f m l (n + x.wait) c r (o ++ [if o = [] then { x with wait := n + x.wait - f } else x])
    else cutL f m l (n + x.wait) c r o
def cutS (r : Rec) (f t : Int) : Rec × Int :=
  if checkB r then (if f < 0 ∨ t < f then (zeroR, 2) else (cutL f (if t > f then t else f) r.items 0 r.cols r.rows [], 0)) else (zeroR, 520)
set_option maxHeartbeats 4000000 in
theorem cut (w0 : World) (S : List Blk) (r : Rec) (hm : (r.items.length : Int) < 9223372036854775807) (f t : Int) (R : AOut → List Blk → Prop) (h : R (.ret (resAV (cutS r f t))) S) :
    ACall Tryz.prog w0 20 [r.av, .int .i64 f, .int .i64 t] S R := by
  have hck := fun S' => check w0 S' r hm
  cases hc : checkB r with
  | false =>
    simp only [cutS, hc, Bool.false_eq_true, if_false] at h hck
    unfold Rec.av at hck ⊢
    refine enter Tryz.func20 rfl (by decide +kernel) (by rw [Tryz.ntmps20]; simp) (by rw [Tryz.ntmps20]; decide) (fun hO => ?_); rw [Tryz.ntmps20]
    repeat' first
      | apply x_seq | apply x_skip | apply x_block | apply x_exit | apply x_ret | apply x_ops_nil | apply p_blk | apply p_exit_it | apply p_exit_hit | apply p_ret_it | apply p_ret_blk | apply p_panic_it | apply p_panic_blk | apply p_end
      | (apply p_exit_miss; (focus rfl))
      | (apply x_region; simp only [List.toList_toArray])
      | (apply x_step0; (focus rfl); (focus (simp only [go_sem, *]; (try rfl); done)); (focus rfl); simp only [putA])
      | (apply x_callA []; (focus (simp only [go_sem, *]; (try rfl); done)); (focus rfl); (focus (simp only [go_sem, *]; (try rfl); done)); (focus rfl); (iterate 2 (focus (simp only [go_sem, *]; (try rfl); done))); (first | (apply hck)); simp only [afterCall, putA])
      | (apply x_panic; (focus (simp only [go_sem, *]; (try rfl); done)); (focus rfl); (focus (simp only [go_sem, *]; (try rfl); done)))
      | (apply x_step; (iterate 2 (focus (simp only [go_sem, *]; (try rfl); done))); (focus rfl); simp only [putA])
      | (apply x_unwanted; (focus (simp only [go_sem, *]; (try rfl); done)); (focus rfl); simp only [putA])
      | (apply x_condT; (focus (simp only [go_sem, *]; (try rfl); done)))
      | (apply x_condF; (focus (simp only [go_sem, *]; (try rfl); done)))
      | (apply x_guardS; (focus rfl); (fail_if_success (focus (show _ = some true; (focus (simp only [go_sem, *]; (try rfl); done))))); (focus (simp only [go_sem, *]; (try rfl); done)); all_goals (intro hb; try simp only [Bool.not_eq_true', Bool.not_eq_false'] at hb))
      | (apply x_condS; (focus (simp only [go_sem, *]; (try rfl); done)); all_goals (intro hb; try simp only [Bool.not_eq_true', Bool.not_eq_false'] at hb))
    (apply f_ret; iterate 7 (focus (simp only [go_sem, *, Tryz.results20]; (try rfl); done)))
    exact h
  | true =>
  simp only [cutS, hc, if_true] at h hck
  have hw := waits_of hc
  clear hc
  by_cases hf : f < 0
  · rw [if_pos (.inl hf)] at h
    have d1 : decide (f < 0) = true := by simpa using hf
    clear hf
    unfold Rec.av at hck ⊢
    refine enter Tryz.func20 rfl (by decide +kernel) (by rw [Tryz.ntmps20]; simp) (by rw [Tryz.ntmps20]; decide) (fun hO => ?_); rw [Tryz.ntmps20]
    repeat' first
      | apply x_seq | apply x_skip | apply x_block | apply x_exit | apply x_ret | apply x_ops_nil | apply p_blk | apply p_exit_it | apply p_exit_hit | apply p_ret_it | apply p_ret_blk | apply p_panic_it | apply p_panic_blk | apply p_end
      | (apply p_exit_miss; (focus rfl))
      | (apply x_region; simp only [List.toList_toArray])
      | (apply x_step0; (focus rfl); (focus (simp only [go_sem, *]; (try rfl); done)); (focus rfl); simp only [putA])
      | (apply x_callA []; (focus (simp only [go_sem, *]; (try rfl); done)); (focus rfl); (focus (simp only [go_sem, *]; (try rfl); done)); (focus rfl); (iterate 2 (focus (simp only [go_sem, *]; (try rfl); done))); (first | (apply hck)); simp only [afterCall, putA])
      | (apply x_panic; (focus (simp only [go_sem, *]; (try rfl); done)); (focus rfl); (focus (simp only [go_sem, *]; (try rfl); done)))
      | (apply x_step; (iterate 2 (focus (simp only [go_sem, *]; (try rfl); done))); (focus rfl); simp only [putA])
      | (apply x_unwanted; (focus (simp only [go_sem, *]; (try rfl); done)); (focus rfl); simp only [putA])
      | (apply x_condT; (focus (simp only [go_sem, *]; (try rfl); done)))
      | (apply x_condF; (focus (simp only [go_sem, *]; (try rfl); done)))
      | (apply x_guardS; (focus rfl); (fail_if_success (focus (show _ = some true; (focus (simp only [go_sem, *]; (try rfl); done))))); (focus (simp only [go_sem, *]; (try rfl); done)); all_goals (intro hb; try simp only [Bool.not_eq_true', Bool.not_eq_false'] at hb))
      | (apply x_condS; (focus (simp only [go_sem, *]; (try rfl); done)); all_goals (intro hb; try simp only [Bool.not_eq_true', Bool.not_eq_false'] at hb))
    (apply f_ret; iterate 7 (focus (simp only [go_sem, *, Tryz.results20]; (try rfl); done)))
    exact h
  by_cases ht : t < f
  · rw [if_pos (.inr ht)] at h
    have d1 : decide (f < 0) = false := by simpa using hf
    have d2 : decide (t < f) = true := by simpa using ht
    clear hf ht
    unfold Rec.av at hck ⊢
    refine enter Tryz.func20 rfl (by decide +kernel) (by rw [Tryz.ntmps20]; simp) (by rw [Tryz.ntmps20]; decide) (fun hO => ?_); rw [Tryz.ntmps20]
    repeat' first
      | apply x_seq | apply x_skip | apply x_block | apply x_exit | apply x_ret | apply x_ops_nil | apply p_blk | apply p_exit_it | apply p_exit_hit | apply p_ret_it | apply p_ret_blk | apply p_panic_it | apply p_panic_blk | apply p_end
      | (apply p_exit_miss; (focus rfl))
      | (apply x_region; simp only [List.toList_toArray])
      | (apply x_step0; (focus rfl); (focus (simp only [go_sem, *]; (try rfl); done)); (focus rfl); simp only [putA])
      | (apply x_callA []; (focus (simp only [go_sem, *]; (try rfl); done)); (focus rfl); (focus (simp only [go_sem, *]; (try rfl); done)); (focus rfl); (iterate 2 (focus (simp only [go_sem, *]; (try rfl); done))); (first | (apply hck)); simp only [afterCall, putA])
      | (apply x_panic; (focus (simp only [go_sem, *]; (try rfl); done)); (focus rfl); (focus (simp only [go_sem, *]; (try rfl); done)))
      | (apply x_step; (iterate 2 (focus (simp only [go_sem, *]; (try rfl); done))); (focus rfl); simp only [putA])
      | (apply x_unwanted; (focus (simp only [go_sem, *]; (try rfl); done)); (focus rfl); simp only [putA])
      | (apply x_condT; (focus (simp only [go_sem, *]; (try rfl); done)))
      | (apply x_condF; (focus (simp only [go_sem, *]; (try rfl); done)))
      | (apply x_guardS; (focus rfl); (fail_if_success (focus (show _ = some true; (focus (simp only [go_sem, *]; (try rfl); done))))); (focus (simp only [go_sem, *]; (try rfl); done)); all_goals (intro hb; try simp only [Bool.not_eq_true', Bool.not_eq_false'] at hb))
      | (apply x_condS; (focus (simp only [go_sem, *]; (try rfl); done)); all_goals (intro hb; try simp only [Bool.not_eq_true', Bool.not_eq_false'] at hb))
    (apply f_ret; iterate 7 (focus (simp only [go_sem, *, Tryz.results20]; (try rfl); done)))
    exact h
  rw [if_neg (by omega)] at h
  obtain ⟨m, hmx⟩ : ∃ m, (if t > f then t else f) = m := ⟨_, rfl⟩
  rw [hmx] at h
  have Hmx := Lib.hid hmx
  have Hf := Lib.hid (show 0 ≤ f ∧ f ≤ t by omega)
  have d1 : decide (f < 0) = false := by simpa using hf
  have d2 : decide (t < f) = false := by simpa using ht
  clear hf ht hmx
  obtain ⟨fin, hfin⟩ : ∃ fin, cutL f m r.items 0 r.cols r.rows [] = fin := ⟨_, rfl⟩
  rw [hfin] at h
  have HFIN := Lib.hid hfin
  clear hfin
  unfold Rec.av at hck ⊢
  refine enter Tryz.func20 rfl (by decide +kernel) (by rw [Tryz.ntmps20]; simp) (by rw [Tryz.ntmps20]; decide) (fun hO => ?_); rw [Tryz.ntmps20]
  repeat' first
    | apply x_seq | apply x_skip | apply x_block | apply x_exit | apply x_ret | apply x_ops_nil | apply p_blk | apply p_exit_it | apply p_exit_hit | apply p_ret_it | apply p_ret_blk | apply p_panic_it | apply p_panic_blk | apply p_end
    | (apply p_exit_miss; (focus rfl))
    | (apply x_region; simp only [List.toList_toArray])
    | (apply x_step0; (focus rfl); (focus (simp only [go_sem, *]; (try rfl); done)); (focus rfl); simp only [putA])
    | (apply x_callA []; (focus (simp only [go_sem, *]; (try rfl); done)); (focus rfl); (focus (simp only [go_sem, *]; (try rfl); done)); (focus rfl); (iterate 2 (focus (simp only [go_sem, *]; (try rfl); done))); (first | (apply hck) | (apply timed)); simp only [afterCall, putA])
    | (apply x_panic; (focus (simp only [go_sem, *]; (try rfl); done)); (focus rfl); (focus (simp only [go_sem, *]; (try rfl); done)))
    | (apply x_step; (iterate 2 (focus (simp only [go_sem, *]; (try rfl); done))); (focus rfl); simp only [putA])
    | (apply x_unwanted; (focus (simp only [go_sem, *]; (try rfl); done)); (focus rfl); simp only [putA])
    | (apply x_condT; (focus (simp only [go_sem, *]; (try rfl); done)))
    | (apply x_condF; (focus (simp only [go_sem, *]; (try rfl); done)))
    | (apply x_guardS; (focus rfl); (fail_if_success (focus (show _ = some true; (focus (simp only [go_sem, *]; (try rfl); done))))); (focus (simp only [go_sem, *]; (try rfl); done)); all_goals (intro hb; try simp only [Bool.not_eq_true', Bool.not_eq_false'] at hb))
    | (apply x_condS; (focus (simp only [go_sem, *]; (try rfl); done)); all_goals (intro hb; try simp only [Bool.not_eq_true', Bool.not_eq_false'] at hb))
    | (apply d_draw; (focus exact mixed); (focus ((simp only [List.size_toArray, List.length_cons, List.length_nil, Nat.reduceAdd]; try rfl); done)))
    | (apply d_done; (focus decide +kernel))
    | ((first | (apply d_take 0; (focus decide +kernel)) | (apply d_take 1; (focus decide +kernel)) | (apply d_take 2; (focus decide +kernel)) | (apply d_take 3; (focus decide +kernel)) | (apply d_take 4; (focus decide +kernel)) | (apply d_take 5; (focus decide +kernel)) | (apply d_take 6; (focus decide +kernel)) | (apply d_take 7; (focus decide +kernel)) | (apply d_take 8; (focus decide +kernel)) | (apply d_take 9; (focus decide +kernel)) | (apply d_take 10; (focus decide +kernel)) | (apply d_take 11; (focus decide +kernel)) | (apply d_take 12; (focus decide +kernel)) | (apply d_take 13; (focus decide +kernel)) | (apply d_take 14; (focus decide +kernel)) | (apply d_take 15; (focus decide +kernel)) | (apply d_take 16; (focus decide +kernel)) | (apply d_take 17; (focus decide +kernel))); (focus (first | exact qds_FPost | exact qds_RPost | exact qds_YB | assumption)); (focus rfl); (iterate 3 (focus (simp only [go_sem, *]; (try rfl); done))); (focus rfl); (focus (simp only [go_sem, *]; (try rfl); done)); simp only [putA])
    | ((first | (apply d_unw 0; (focus decide +kernel)) | (apply d_unw 1; (focus decide +kernel)) | (apply d_unw 2; (focus decide +kernel)) | (apply d_unw 3; (focus decide +kernel)) | (apply d_unw 4; (focus decide +kernel)) | (apply d_unw 5; (focus decide +kernel)) | (apply d_unw 6; (focus decide +kernel)) | (apply d_unw 7; (focus decide +kernel)) | (apply d_unw 8; (focus decide +kernel)) | (apply d_unw 9; (focus decide +kernel)) | (apply d_unw 10; (focus decide +kernel)) | (apply d_unw 11; (focus decide +kernel)) | (apply d_unw 12; (focus decide +kernel)) | (apply d_unw 13; (focus decide +kernel)) | (apply d_unw 14; (focus decide +kernel)) | (apply d_unw 15; (focus decide +kernel)) | (apply d_unw 16; (focus decide +kernel)) | (apply d_unw 17; (focus decide +kernel))); (focus (first | exact qds_FPost | exact qds_RPost | exact qds_YB | assumption)); (focus rfl); (iterate 2 (focus (simp only [go_sem, *]; (try rfl); done))); (focus rfl); simp only [putA])
    | (first | (apply d_one 0; (focus decide +kernel)) | (apply d_one 1; (focus decide +kernel)) | (apply d_one 2; (focus decide +kernel)) | (apply d_one 3; (focus decide +kernel)) | (apply d_one 4; (focus decide +kernel)) | (apply d_one 5; (focus decide +kernel)) | (apply d_one 6; (focus decide +kernel)) | (apply d_one 7; (focus decide +kernel)) | (apply d_one 8; (focus decide +kernel)) | (apply d_one 9; (focus decide +kernel)) | (apply d_one 10; (focus decide +kernel)) | (apply d_one 11; (focus decide +kernel)) | (apply d_one 12; (focus decide +kernel)) | (apply d_one 13; (focus decide +kernel)) | (apply d_one 14; (focus decide +kernel)) | (apply d_one 15; (focus decide +kernel)) | (apply d_one 16; (focus decide +kernel)) | (apply d_one 17; (focus decide +kernel)))
    | (apply o_step; (iterate 3 (focus (simp only [go_sem, *]; (try rfl); done))); (focus rfl); simp only [putA])
    | (apply o_unw; (iterate 2 (focus (simp only [go_sem, *]; (try rfl); done))); (focus rfl); simp only [putA])
    | apply pr_nil | apply pr_same | apply pr_go | apply pl_nil | apply pl_none | (apply pl_skip; (focus decide +kernel)) | (apply pl_one; (focus (simp only [go_sem, *]; (try rfl); done)))
    | (apply o_call []; (iterate 2 (focus (simp only [go_sem, *]; (try rfl); done))); (focus rfl); (focus (simp only [go_sem, *]; (try rfl); done)); (focus rfl); (iterate 2 (focus (simp only [go_sem, *]; (try rfl); done))); (first | (apply hck) | (apply timed)); simp only [afterOp, putA])
  all_goals
    refine x_thawC (a := S.length + 3) (j := 2) 29 5 (by (simp only [go_sem, *]; try rfl)) (by (simp only [go_sem, *]; try rfl)) (by decide) ?_
    simp only [go_sem, *]
    apply x_rangeL [4, 5, 6, 7]
    · (simp only [go_sem, *, timedV]; try rfl)
    · (simp only [go_sem, *]; try rfl)
    · rfl
    · (simp only [go_sem, *]; try rfl)
    · (simp only [go_sem, *]; try rfl)
    intro LB hLB
    have hLB2 : ∀ m, LB.ltB (S.length + (5 + m)) = true := by intro m; rw [hLB]; (simp only [go_sem, *]; try rfl); simp; omega
    have HLB := Lib.hid hLB
    clear hLB d1 d2
    have HW := Lib.hid hw
    clear hck
    refine timed1 w0 r hw (S.length + 7) (S.length + 8) (by simp) (fun k S' => ∃ c q o, cutL f m (r.items.drop k) (tmz r.items k) c q o = fin ∧ o.length ≤ k ∧ S' = S ++ [Blk.cells [AV.int .i64 r.cols, AV.int .i64 r.rows, AV.sval false (List.map It.av r.items)], Blk.cells [.int .i64 f], Blk.cells [.int .i64 t], Blk.cells [.int .i64 c, .int .i64 q, .sown (S.length + 5) o.length o.length], Blk.cells [.int .i64 0], Blk.arr 29 5 0 o.length (List.map It.av o), Blk.obj (Obj.deferred (some [])), LB])
      (fun k S' => ∃ DB, Done .ret DB ∧ DB.ltB (S.length + 8) = true ∧ S' = S ++ [Blk.cells [AV.int .i64 r.cols, AV.int .i64 r.rows, AV.sval false (List.map It.av r.items)], Blk.cells [.int .i64 f], Blk.cells [.int .i64 t], Blk.cells [.int .i64 fin.cols, .int .i64 fin.rows, .sown (S.length + 5) fin.items.length fin.items.length], Blk.cells [.int .i64 0], Blk.arr 29 5 0 fin.items.length (List.map It.av fin.items), Blk.obj (Obj.deferred (some [])), DB]) ?_ ?_ ?_ _ ?_ _ ?_ ?_
    · rintro k _ ⟨c, q, o, _, _, rfl⟩
      have h7 := hLB2 3
      clear Hmx HFIN HW
      refine ⟨by simp, OuterOk.app hO ?_⟩
      (simp only [go_sem, *]; try rfl)
    · rintro k _ ⟨DB, hDB, h7, rfl⟩
      clear hDB
      refine ⟨by simp, OuterOk.app hO ?_⟩
      (simp only [go_sem, *]; try rfl)
    · rintro k _ x ⟨c, q, o, hcut, hok, rfl⟩ hx E R' hR1 hR2
      have hkl : k < r.items.length := (List.getElem?_eq_some_iff.1 hx).1
      have hdr : r.items.drop k = x :: r.items.drop (k + 1) := by
        rw [List.drop_eq_getElem_cons hkl]
        congr 1
        have := (List.getElem?_eq_some_iff.1 hx).2
        exact this
      rw [hdr, cutL, ← tmz_succ hx] at hcut
      have HC := Lib.hid hcut
      have h7 := hLB2 3
      have hb := tmz_bd HW.out.2 (k + 1)
      have hl := HW.out.1
      have hmx := Hmx.out
      have hlen : (List.map It.av o).length = o.length := by simp
      have hb48 : (o.length + 1) * 48 ≤ 140737488355328 := by omega
      have hwr : f ≤ tmz r.items (k + 1) → IntKind.i64.wrap (tmz r.items (k + 1) - f) = tmz r.items (k + 1) - f := fun hh => IntWalk.i64_in _ (by have := Hf.out; omega)
      have Hok := Lib.hid hok
      clear hdr hcut hkl hb hl hw hok
      apply ya_intro HLB.out
      · (simp only [go_sem, *]; try rfl)
      · rfl
      · decide
      · rfl
      · rfl
      · (simp only [go_sem, *]; try rfl)
      intro rb BB hBB
      have HBB := Lib.hid hBB
      clear hBB
      by_cases c1 : m ≤ tmz r.items (k + 1)
      · have hcut := HC.out
        rw [if_pos c1] at hcut
        have d1 : decide (m ≤ tmz r.items (k + 1)) = true := by simpa using c1
        clear c1 hwr
        subst hcut
        repeat' first
          | apply x_seq | apply x_skip | apply x_block | apply x_exit | apply x_ret | apply x_ops_nil | apply p_blk | apply p_exit_it | apply p_exit_hit | apply p_ret_it | apply p_ret_blk | apply p_panic_it | apply p_panic_blk | apply p_end
          | (apply p_exit_miss; (focus rfl))
          | (apply x_region; simp only [List.toList_toArray])
          | (apply x_step0; (focus rfl); (focus (simp only [go_sem, *, It.av]; (try rfl); done)); (focus rfl); simp only [putA])
          | (apply x_panic; (focus (simp only [go_sem, *, It.av]; (try rfl); done)); (focus rfl); (focus (simp only [go_sem, *, It.av]; (try rfl); done)))
          | (apply x_step; (iterate 2 (focus (simp only [go_sem, *, It.av]; (try rfl); done))); (focus rfl); simp only [putA])
          | (apply x_unwanted; (focus (simp only [go_sem, *, It.av]; (try rfl); done)); (focus rfl); simp only [putA])
          | (apply x_condT; (focus (simp only [go_sem, *, It.av]; (try rfl); done)))
          | (apply x_condF; (focus (simp only [go_sem, *, It.av]; (try rfl); done)))
          | (apply x_guardS; (focus rfl); (fail_if_success (focus (show _ = some true; (focus (simp only [go_sem, *, It.av]; (try rfl); done))))); (focus (simp only [go_sem, *, It.av]; (try rfl); done)); all_goals (intro hb; try simp only [Bool.not_eq_true', Bool.not_eq_false'] at hb))
          | (apply x_condS; (focus (simp only [go_sem, *, It.av]; (try rfl); done)); all_goals (intro hb; try simp only [Bool.not_eq_true', Bool.not_eq_false'] at hb))
        apply yb_intro
        · (simp only [go_sem, *]; try rfl)
        · (simp only [go_sem, *]; try rfl)
        repeat' first
          | apply x_seq | apply x_skip | apply x_block | apply x_exit | apply x_ret | apply x_ops_nil | apply p_blk | apply p_exit_it | apply p_exit_hit | apply p_ret_it | apply p_ret_blk | apply p_panic_it | apply p_panic_blk | apply p_end
          | (apply p_exit_miss; (focus rfl))
          | (apply x_region; simp only [List.toList_toArray])
          | (apply x_step0; (focus rfl); (focus (simp only [go_sem, *, It.av]; (try rfl); done)); (focus rfl); simp only [putA])
          | (apply x_panic; (focus (simp only [go_sem, *, It.av]; (try rfl); done)); (focus rfl); (focus (simp only [go_sem, *, It.av]; (try rfl); done)))
          | (apply x_step; (iterate 2 (focus (simp only [go_sem, *, It.av]; (try rfl); done))); (focus rfl); simp only [putA])
          | (apply x_unwanted; (focus (simp only [go_sem, *, It.av]; (try rfl); done)); (focus rfl); simp only [putA])
          | (apply x_condT; (focus (simp only [go_sem, *, It.av]; (try rfl); done)))
          | (apply x_condF; (focus (simp only [go_sem, *, It.av]; (try rfl); done)))
          | (apply x_guardS; (focus rfl); (fail_if_success (focus (show _ = some true; (focus (simp only [go_sem, *, It.av]; (try rfl); done))))); (focus (simp only [go_sem, *, It.av]; (try rfl); done)); all_goals (intro hb; try simp only [Bool.not_eq_true', Bool.not_eq_false'] at hb))
          | (apply x_condS; (focus (simp only [go_sem, *, It.av]; (try rfl); done)); all_goals (intro hb; try simp only [Bool.not_eq_true', Bool.not_eq_false'] at hb))
          | (apply d_draw; (focus exact mixed); (focus ((simp only [List.size_toArray, List.length_cons, List.length_nil, Nat.reduceAdd]; try rfl); done)))
          | (apply d_done; (focus decide +kernel))
          | ((first | (apply d_take 0; (focus decide +kernel)) | (apply d_take 1; (focus decide +kernel)) | (apply d_take 2; (focus decide +kernel)) | (apply d_take 3; (focus decide +kernel)) | (apply d_take 4; (focus decide +kernel)) | (apply d_take 5; (focus decide +kernel)) | (apply d_take 6; (focus decide +kernel)) | (apply d_take 7; (focus decide +kernel)) | (apply d_take 8; (focus decide +kernel)) | (apply d_take 9; (focus decide +kernel)) | (apply d_take 10; (focus decide +kernel)) | (apply d_take 11; (focus decide +kernel)) | (apply d_take 12; (focus decide +kernel)) | (apply d_take 13; (focus decide +kernel)) | (apply d_take 14; (focus decide +kernel)) | (apply d_take 15; (focus decide +kernel)) | (apply d_take 16; (focus decide +kernel)) | (apply d_take 17; (focus decide +kernel))); (focus (first | exact qds_FPost | exact qds_RPost | exact qds_YB | assumption)); (focus rfl); (iterate 3 (focus (simp only [go_sem, *, It.av]; (try rfl); done))); (focus rfl); (focus (simp only [go_sem, *, It.av]; (try rfl); done)); simp only [putA])
          | ((first | (apply d_unw 0; (focus decide +kernel)) | (apply d_unw 1; (focus decide +kernel)) | (apply d_unw 2; (focus decide +kernel)) | (apply d_unw 3; (focus decide +kernel)) | (apply d_unw 4; (focus decide +kernel)) | (apply d_unw 5; (focus decide +kernel)) | (apply d_unw 6; (focus decide +kernel)) | (apply d_unw 7; (focus decide +kernel)) | (apply d_unw 8; (focus decide +kernel)) | (apply d_unw 9; (focus decide +kernel)) | (apply d_unw 10; (focus decide +kernel)) | (apply d_unw 11; (focus decide +kernel)) | (apply d_unw 12; (focus decide +kernel)) | (apply d_unw 13; (focus decide +kernel)) | (apply d_unw 14; (focus decide +kernel)) | (apply d_unw 15; (focus decide +kernel)) | (apply d_unw 16; (focus decide +kernel)) | (apply d_unw 17; (focus decide +kernel))); (focus (first | exact qds_FPost | exact qds_RPost | exact qds_YB | assumption)); (focus rfl); (iterate 2 (focus (simp only [go_sem, *, It.av]; (try rfl); done))); (focus rfl); simp only [putA])
          | (first | (apply d_one 0; (focus decide +kernel)) | (apply d_one 1; (focus decide +kernel)) | (apply d_one 2; (focus decide +kernel)) | (apply d_one 3; (focus decide +kernel)) | (apply d_one 4; (focus decide +kernel)) | (apply d_one 5; (focus decide +kernel)) | (apply d_one 6; (focus decide +kernel)) | (apply d_one 7; (focus decide +kernel)) | (apply d_one 8; (focus decide +kernel)) | (apply d_one 9; (focus decide +kernel)) | (apply d_one 10; (focus decide +kernel)) | (apply d_one 11; (focus decide +kernel)) | (apply d_one 12; (focus decide +kernel)) | (apply d_one 13; (focus decide +kernel)) | (apply d_one 14; (focus decide +kernel)) | (apply d_one 15; (focus decide +kernel)) | (apply d_one 16; (focus decide +kernel)) | (apply d_one 17; (focus decide +kernel)))
          | (apply o_step; (iterate 3 (focus (simp only [go_sem, *, It.av]; (try rfl); done))); (focus rfl); simp only [putA])
          | (apply o_unw; (iterate 2 (focus (simp only [go_sem, *, It.av]; (try rfl); done))); (focus rfl); simp only [putA])
          | apply pr_nil | apply pr_same | apply pr_go | apply pl_nil | apply pl_none | (apply pl_skip; (focus decide +kernel)) | (apply pl_one; (focus (simp only [go_sem, *, It.av]; (try rfl); done)))
        refine rp_rL HLB.out HBB.out h7 (by (simp only [go_sem, *]; try rfl)) ?_
        intro DB hDB hlt
        have key := hR2 _ [Blk.cells [AV.int .i64 x.wait, AV.int .i64 x.kind, AV.int .i64 x.cols, AV.int .i64 x.rows, AV.str x.text]] ⟨DB, hDB, hlt, rfl⟩
        simp only [app_assoc, List.cons_append, List.nil_append, set_new, List.set_cons_succ, List.set_cons_zero]
        simpa only [app_assoc, List.cons_append, List.nil_append, List.append_nil] using key
      have d1 : decide (m ≤ tmz r.items (k + 1)) = false := by simpa using c1
      by_cases c2 : tmz r.items (k + 1) < f
      · have d2 : decide (tmz r.items (k + 1) < f) = true := by simpa using c2
        have d3 : decide (f ≤ tmz r.items (k + 1)) = false := by simpa using c2
        by_cases c3 : x.kind = 3
        · have hcut := HC.out
          rw [if_neg c1, if_pos ⟨c2, c3⟩] at hcut
          have HC2 := Lib.hid hcut
          have d4 : (x.kind == 3) = true := by simpa using c3
          clear c1 c2 c3 hwr hcut
          repeat' first
            | apply x_seq | apply x_skip | apply x_block | apply x_exit | apply x_ret | apply x_ops_nil | apply p_blk | apply p_exit_it | apply p_exit_hit | apply p_ret_it | apply p_ret_blk | apply p_panic_it | apply p_panic_blk | apply p_end
            | (apply p_exit_miss; (focus rfl))
            | (apply x_region; simp only [List.toList_toArray])
            | (apply x_step0; (focus rfl); (focus (simp only [go_sem, *, It.av]; (try rfl); done)); (focus rfl); simp only [putA])
            | (apply x_panic; (focus (simp only [go_sem, *, It.av]; (try rfl); done)); (focus rfl); (focus (simp only [go_sem, *, It.av]; (try rfl); done)))
            | (apply x_step; (iterate 2 (focus (simp only [go_sem, *, It.av]; (try rfl); done))); (focus rfl); simp only [putA])
            | (apply x_unwanted; (focus (simp only [go_sem, *, It.av]; (try rfl); done)); (focus rfl); simp only [putA])
            | (apply x_condT; (focus (simp only [go_sem, *, It.av]; (try rfl); done)))
            | (apply x_condF; (focus (simp only [go_sem, *, It.av]; (try rfl); done)))
            | (apply x_guardS; (focus rfl); (fail_if_success (focus (show _ = some true; (focus (simp only [go_sem, *, It.av]; (try rfl); done))))); (focus (simp only [go_sem, *, It.av]; (try rfl); done)); all_goals (intro hb; try simp only [Bool.not_eq_true', Bool.not_eq_false'] at hb))
            | (apply x_condS; (focus (simp only [go_sem, *, It.av]; (try rfl); done)); all_goals (intro hb; try simp only [Bool.not_eq_true', Bool.not_eq_false'] at hb))
          apply yb_intro
          · (simp only [go_sem, *]; try rfl)
          · (simp only [go_sem, *]; try rfl)
          repeat' first
            | apply x_seq | apply x_skip | apply x_block | apply x_exit | apply x_ret | apply x_ops_nil | apply p_blk | apply p_exit_it | apply p_exit_hit | apply p_ret_it | apply p_ret_blk | apply p_panic_it | apply p_panic_blk | apply p_end
            | (apply p_exit_miss; (focus rfl))
            | (apply x_region; simp only [List.toList_toArray])
            | (apply x_step0; (focus rfl); (focus (simp only [go_sem, *, It.av]; (try rfl); done)); (focus rfl); simp only [putA])
            | (apply x_panic; (focus (simp only [go_sem, *, It.av]; (try rfl); done)); (focus rfl); (focus (simp only [go_sem, *, It.av]; (try rfl); done)))
            | (apply x_step; (iterate 2 (focus (simp only [go_sem, *, It.av]; (try rfl); done))); (focus rfl); simp only [putA])
            | (apply x_unwanted; (focus (simp only [go_sem, *, It.av]; (try rfl); done)); (focus rfl); simp only [putA])
            | (apply x_condT; (focus (simp only [go_sem, *, It.av]; (try rfl); done)))
            | (apply x_condF; (focus (simp only [go_sem, *, It.av]; (try rfl); done)))
            | (apply x_guardS; (focus rfl); (fail_if_success (focus (show _ = some true; (focus (simp only [go_sem, *, It.av]; (try rfl); done))))); (focus (simp only [go_sem, *, It.av]; (try rfl); done)); all_goals (intro hb; try simp only [Bool.not_eq_true', Bool.not_eq_false'] at hb))
            | (apply x_condS; (focus (simp only [go_sem, *, It.av]; (try rfl); done)); all_goals (intro hb; try simp only [Bool.not_eq_true', Bool.not_eq_false'] at hb))
            | (apply d_draw; (focus exact mixed); (focus ((simp only [List.size_toArray, List.length_cons, List.length_nil, Nat.reduceAdd]; try rfl); done)))
            | (apply d_done; (focus decide +kernel))
            | ((first | (apply d_take 0; (focus decide +kernel)) | (apply d_take 1; (focus decide +kernel)) | (apply d_take 2; (focus decide +kernel)) | (apply d_take 3; (focus decide +kernel)) | (apply d_take 4; (focus decide +kernel)) | (apply d_take 5; (focus decide +kernel)) | (apply d_take 6; (focus decide +kernel)) | (apply d_take 7; (focus decide +kernel)) | (apply d_take 8; (focus decide +kernel)) | (apply d_take 9; (focus decide +kernel)) | (apply d_take 10; (focus decide +kernel)) | (apply d_take 11; (focus decide +kernel)) | (apply d_take 12; (focus decide +kernel)) | (apply d_take 13; (focus decide +kernel)) | (apply d_take 14; (focus decide +kernel)) | (apply d_take 15; (focus decide +kernel)) | (apply d_take 16; (focus decide +kernel)) | (apply d_take 17; (focus decide +kernel))); (focus (first | exact qds_FPost | exact qds_RPost | exact qds_YB | assumption)); (focus rfl); (iterate 3 (focus (simp only [go_sem, *, It.av]; (try rfl); done))); (focus rfl); (focus (simp only [go_sem, *, It.av]; (try rfl); done)); simp only [putA])
            | ((first | (apply d_unw 0; (focus decide +kernel)) | (apply d_unw 1; (focus decide +kernel)) | (apply d_unw 2; (focus decide +kernel)) | (apply d_unw 3; (focus decide +kernel)) | (apply d_unw 4; (focus decide +kernel)) | (apply d_unw 5; (focus decide +kernel)) | (apply d_unw 6; (focus decide +kernel)) | (apply d_unw 7; (focus decide +kernel)) | (apply d_unw 8; (focus decide +kernel)) | (apply d_unw 9; (focus decide +kernel)) | (apply d_unw 10; (focus decide +kernel)) | (apply d_unw 11; (focus decide +kernel)) | (apply d_unw 12; (focus decide +kernel)) | (apply d_unw 13; (focus decide +kernel)) | (apply d_unw 14; (focus decide +kernel)) | (apply d_unw 15; (focus decide +kernel)) | (apply d_unw 16; (focus decide +kernel)) | (apply d_unw 17; (focus decide +kernel))); (focus (first | exact qds_FPost | exact qds_RPost | exact qds_YB | assumption)); (focus rfl); (iterate 2 (focus (simp only [go_sem, *, It.av]; (try rfl); done))); (focus rfl); simp only [putA])
            | (first | (apply d_one 0; (focus decide +kernel)) | (apply d_one 1; (focus decide +kernel)) | (apply d_one 2; (focus decide +kernel)) | (apply d_one 3; (focus decide +kernel)) | (apply d_one 4; (focus decide +kernel)) | (apply d_one 5; (focus decide +kernel)) | (apply d_one 6; (focus decide +kernel)) | (apply d_one 7; (focus decide +kernel)) | (apply d_one 8; (focus decide +kernel)) | (apply d_one 9; (focus decide +kernel)) | (apply d_one 10; (focus decide +kernel)) | (apply d_one 11; (focus decide +kernel)) | (apply d_one 12; (focus decide +kernel)) | (apply d_one 13; (focus decide +kernel)) | (apply d_one 14; (focus decide +kernel)) | (apply d_one 15; (focus decide +kernel)) | (apply d_one 16; (focus decide +kernel)) | (apply d_one 17; (focus decide +kernel)))
            | (apply o_step; (iterate 3 (focus (simp only [go_sem, *, It.av]; (try rfl); done))); (focus rfl); simp only [putA])
            | (apply o_unw; (iterate 2 (focus (simp only [go_sem, *, It.av]; (try rfl); done))); (focus rfl); simp only [putA])
            | apply pr_nil | apply pr_same | apply pr_go | apply pl_nil | apply pl_none | (apply pl_skip; (focus decide +kernel)) | (apply pl_one; (focus (simp only [go_sem, *, It.av]; (try rfl); done)))
          apply rp_n HLB.out HBB.out
          · (simp only [go_sem, *]; try rfl)
          · (simp only [go_sem, *]; try rfl)
          have key := hR1 _ [Blk.cells [AV.int .i64 x.wait, AV.int .i64 x.kind, AV.int .i64 x.cols, AV.int .i64 x.rows, AV.str x.text]] ⟨x.cols, x.rows, o, HC2.out, Nat.le_succ_of_le Hok.out, rfl⟩
          try simp only [List.length_append, List.length_cons, List.length_nil, Nat.zero_add, List.map_append, List.map_cons, List.map_nil, It.av] at key
          simpa only [app_assoc, List.cons_append, List.nil_append, List.append_nil, List.length_append, List.length_cons, List.length_nil, Nat.zero_add, It.av] using key
        · have hcut := HC.out
          rw [if_neg c1, if_neg (by simp [c3]), if_neg (by omega)] at hcut
          have HC2 := Lib.hid hcut
          have d4 : (x.kind == 3) = false := by simpa using c3
          clear c1 c2 c3 hwr hcut
          repeat' first
            | apply x_seq | apply x_skip | apply x_block | apply x_exit | apply x_ret | apply x_ops_nil | apply p_blk | apply p_exit_it | apply p_exit_hit | apply p_ret_it | apply p_ret_blk | apply p_panic_it | apply p_panic_blk | apply p_end
            | (apply p_exit_miss; (focus rfl))
            | (apply x_region; simp only [List.toList_toArray])
            | (apply x_step0; (focus rfl); (focus (simp only [go_sem, *, It.av]; (try rfl); done)); (focus rfl); simp only [putA])
            | (apply x_panic; (focus (simp only [go_sem, *, It.av]; (try rfl); done)); (focus rfl); (focus (simp only [go_sem, *, It.av]; (try rfl); done)))
            | (apply x_step; (iterate 2 (focus (simp only [go_sem, *, It.av]; (try rfl); done))); (focus rfl); simp only [putA])
            | (apply x_unwanted; (focus (simp only [go_sem, *, It.av]; (try rfl); done)); (focus rfl); simp only [putA])
            | (apply x_condT; (focus (simp only [go_sem, *, It.av]; (try rfl); done)))
            | (apply x_condF; (focus (simp only [go_sem, *, It.av]; (try rfl); done)))
            | (apply x_guardS; (focus rfl); (fail_if_success (focus (show _ = some true; (focus (simp only [go_sem, *, It.av]; (try rfl); done))))); (focus (simp only [go_sem, *, It.av]; (try rfl); done)); all_goals (intro hb; try simp only [Bool.not_eq_true', Bool.not_eq_false'] at hb))
            | (apply x_condS; (focus (simp only [go_sem, *, It.av]; (try rfl); done)); all_goals (intro hb; try simp only [Bool.not_eq_true', Bool.not_eq_false'] at hb))
          apply yb_intro
          · (simp only [go_sem, *]; try rfl)
          · (simp only [go_sem, *]; try rfl)
          repeat' first
            | apply x_seq | apply x_skip | apply x_block | apply x_exit | apply x_ret | apply x_ops_nil | apply p_blk | apply p_exit_it | apply p_exit_hit | apply p_ret_it | apply p_ret_blk | apply p_panic_it | apply p_panic_blk | apply p_end
            | (apply p_exit_miss; (focus rfl))
            | (apply x_region; simp only [List.toList_toArray])
            | (apply x_step0; (focus rfl); (focus (simp only [go_sem, *, It.av]; (try rfl); done)); (focus rfl); simp only [putA])
            | (apply x_panic; (focus (simp only [go_sem, *, It.av]; (try rfl); done)); (focus rfl); (focus (simp only [go_sem, *, It.av]; (try rfl); done)))
            | (apply x_step; (iterate 2 (focus (simp only [go_sem, *, It.av]; (try rfl); done))); (focus rfl); simp only [putA])
            | (apply x_unwanted; (focus (simp only [go_sem, *, It.av]; (try rfl); done)); (focus rfl); simp only [putA])
            | (apply x_condT; (focus (simp only [go_sem, *, It.av]; (try rfl); done)))
            | (apply x_condF; (focus (simp only [go_sem, *, It.av]; (try rfl); done)))
            | (apply x_guardS; (focus rfl); (fail_if_success (focus (show _ = some true; (focus (simp only [go_sem, *, It.av]; (try rfl); done))))); (focus (simp only [go_sem, *, It.av]; (try rfl); done)); all_goals (intro hb; try simp only [Bool.not_eq_true', Bool.not_eq_false'] at hb))
            | (apply x_condS; (focus (simp only [go_sem, *, It.av]; (try rfl); done)); all_goals (intro hb; try simp only [Bool.not_eq_true', Bool.not_eq_false'] at hb))
            | (apply d_draw; (focus exact mixed); (focus ((simp only [List.size_toArray, List.length_cons, List.length_nil, Nat.reduceAdd]; try rfl); done)))
            | (apply d_done; (focus decide +kernel))
            | ((first | (apply d_take 0; (focus decide +kernel)) | (apply d_take 1; (focus decide +kernel)) | (apply d_take 2; (focus decide +kernel)) | (apply d_take 3; (focus decide +kernel)) | (apply d_take 4; (focus decide +kernel)) | (apply d_take 5; (focus decide +kernel)) | (apply d_take 6; (focus decide +kernel)) | (apply d_take 7; (focus decide +kernel)) | (apply d_take 8; (focus decide +kernel)) | (apply d_take 9; (focus decide +kernel)) | (apply d_take 10; (focus decide +kernel)) | (apply d_take 11; (focus decide +kernel)) | (apply d_take 12; (focus decide +kernel)) | (apply d_take 13; (focus decide +kernel)) | (apply d_take 14; (focus decide +kernel)) | (apply d_take 15; (focus decide +kernel)) | (apply d_take 16; (focus decide +kernel)) | (apply d_take 17; (focus decide +kernel))); (focus (first | exact qds_FPost | exact qds_RPost | exact qds_YB | assumption)); (focus rfl); (iterate 3 (focus (simp only [go_sem, *, It.av]; (try rfl); done))); (focus rfl); (focus (simp only [go_sem, *, It.av]; (try rfl); done)); simp only [putA])
            | ((first | (apply d_unw 0; (focus decide +kernel)) | (apply d_unw 1; (focus decide +kernel)) | (apply d_unw 2; (focus decide +kernel)) | (apply d_unw 3; (focus decide +kernel)) | (apply d_unw 4; (focus decide +kernel)) | (apply d_unw 5; (focus decide +kernel)) | (apply d_unw 6; (focus decide +kernel)) | (apply d_unw 7; (focus decide +kernel)) | (apply d_unw 8; (focus decide +kernel)) | (apply d_unw 9; (focus decide +kernel)) | (apply d_unw 10; (focus decide +kernel)) | (apply d_unw 11; (focus decide +kernel)) | (apply d_unw 12; (focus decide +kernel)) | (apply d_unw 13; (focus decide +kernel)) | (apply d_unw 14; (focus decide +kernel)) | (apply d_unw 15; (focus decide +kernel)) | (apply d_unw 16; (focus decide +kernel)) | (apply d_unw 17; (focus decide +kernel))); (focus (first | exact qds_FPost | exact qds_RPost | exact qds_YB | assumption)); (focus rfl); (iterate 2 (focus (simp only [go_sem, *, It.av]; (try rfl); done))); (focus rfl); simp only [putA])
            | (first | (apply d_one 0; (focus decide +kernel)) | (apply d_one 1; (focus decide +kernel)) | (apply d_one 2; (focus decide +kernel)) | (apply d_one 3; (focus decide +kernel)) | (apply d_one 4; (focus decide +kernel)) | (apply d_one 5; (focus decide +kernel)) | (apply d_one 6; (focus decide +kernel)) | (apply d_one 7; (focus decide +kernel)) | (apply d_one 8; (focus decide +kernel)) | (apply d_one 9; (focus decide +kernel)) | (apply d_one 10; (focus decide +kernel)) | (apply d_one 11; (focus decide +kernel)) | (apply d_one 12; (focus decide +kernel)) | (apply d_one 13; (focus decide +kernel)) | (apply d_one 14; (focus decide +kernel)) | (apply d_one 15; (focus decide +kernel)) | (apply d_one 16; (focus decide +kernel)) | (apply d_one 17; (focus decide +kernel)))
            | (apply o_step; (iterate 3 (focus (simp only [go_sem, *, It.av]; (try rfl); done))); (focus rfl); simp only [putA])
            | (apply o_unw; (iterate 2 (focus (simp only [go_sem, *, It.av]; (try rfl); done))); (focus rfl); simp only [putA])
            | apply pr_nil | apply pr_same | apply pr_go | apply pl_nil | apply pl_none | (apply pl_skip; (focus decide +kernel)) | (apply pl_one; (focus (simp only [go_sem, *, It.av]; (try rfl); done)))
          apply rp_n HLB.out HBB.out
          · (simp only [go_sem, *]; try rfl)
          · (simp only [go_sem, *]; try rfl)
          have key := hR1 _ [Blk.cells [AV.int .i64 x.wait, AV.int .i64 x.kind, AV.int .i64 x.cols, AV.int .i64 x.rows, AV.str x.text]] ⟨c, q, o, HC2.out, Nat.le_succ_of_le Hok.out, rfl⟩
          try simp only [List.length_append, List.length_cons, List.length_nil, Nat.zero_add, List.map_append, List.map_cons, List.map_nil, It.av] at key
          simpa only [app_assoc, List.cons_append, List.nil_append, List.append_nil, List.length_append, List.length_cons, List.length_nil, Nat.zero_add, It.av] using key
      · have d2 : decide (tmz r.items (k + 1) < f) = false := by simpa using c2
        have d3 : decide (f ≤ tmz r.items (k + 1)) = true := by simp; omega
        have hwr1 := hwr (by omega)
        have hcut := HC.out
        rw [if_neg c1, if_neg (by simp [c2]), if_pos (by omega)] at hcut
        by_cases c3 : o = []
        · subst c3
          rw [if_pos rfl] at hcut
          have HC2 := Lib.hid hcut
          clear c1 c2 hwr hcut
          repeat' first
            | apply x_seq | apply x_skip | apply x_block | apply x_exit | apply x_ret | apply x_ops_nil | apply p_blk | apply p_exit_it | apply p_exit_hit | apply p_ret_it | apply p_ret_blk | apply p_panic_it | apply p_panic_blk | apply p_end
            | (apply p_exit_miss; (focus rfl))
            | (apply x_region; simp only [List.toList_toArray])
            | (apply x_step0; (focus rfl); (focus (simp only [go_sem, *, It.av]; (try rfl); done)); (focus rfl); simp only [putA])
            | (apply x_panic; (focus (simp only [go_sem, *, It.av]; (try rfl); done)); (focus rfl); (focus (simp only [go_sem, *, It.av]; (try rfl); done)))
            | (apply x_step; (iterate 2 (focus (simp only [go_sem, *, It.av]; (try rfl); done))); (focus rfl); simp only [putA])
            | (apply x_unwanted; (focus (simp only [go_sem, *, It.av]; (try rfl); done)); (focus rfl); simp only [putA])
            | (apply x_condT; (focus (simp only [go_sem, *, It.av]; (try rfl); done)))
            | (apply x_condF; (focus (simp only [go_sem, *, It.av]; (try rfl); done)))
            | (apply x_guardS; (focus rfl); (fail_if_success (focus (show _ = some true; (focus (simp only [go_sem, *, It.av]; (try rfl); done))))); (focus (simp only [go_sem, *, It.av]; (try rfl); done)); all_goals (intro hb; try simp only [Bool.not_eq_true', Bool.not_eq_false'] at hb))
            | (apply x_condS; (focus (simp only [go_sem, *, It.av]; (try rfl); done)); all_goals (intro hb; try simp only [Bool.not_eq_true', Bool.not_eq_false'] at hb))
          apply yb_intro
          · (simp only [go_sem, *]; try rfl)
          · (simp only [go_sem, *]; try rfl)
          repeat' first
            | apply x_seq | apply x_skip | apply x_block | apply x_exit | apply x_ret | apply x_ops_nil | apply p_blk | apply p_exit_it | apply p_exit_hit | apply p_ret_it | apply p_ret_blk | apply p_panic_it | apply p_panic_blk | apply p_end
            | (apply p_exit_miss; (focus rfl))
            | (apply x_region; simp only [List.toList_toArray])
            | (apply x_step0; (focus rfl); (focus (simp only [go_sem, *, It.av]; (try rfl); done)); (focus rfl); simp only [putA])
            | (apply x_panic; (focus (simp only [go_sem, *, It.av]; (try rfl); done)); (focus rfl); (focus (simp only [go_sem, *, It.av]; (try rfl); done)))
            | (apply x_step; (iterate 2 (focus (simp only [go_sem, *, It.av]; (try rfl); done))); (focus rfl); simp only [putA])
            | (apply x_unwanted; (focus (simp only [go_sem, *, It.av]; (try rfl); done)); (focus rfl); simp only [putA])
            | (apply x_condT; (focus (simp only [go_sem, *, It.av]; (try rfl); done)))
            | (apply x_condF; (focus (simp only [go_sem, *, It.av]; (try rfl); done)))
            | (apply x_guardS; (focus rfl); (fail_if_success (focus (show _ = some true; (focus (simp only [go_sem, *, It.av]; (try rfl); done))))); (focus (simp only [go_sem, *, It.av]; (try rfl); done)); all_goals (intro hb; try simp only [Bool.not_eq_true', Bool.not_eq_false'] at hb))
            | (apply x_condS; (focus (simp only [go_sem, *, It.av]; (try rfl); done)); all_goals (intro hb; try simp only [Bool.not_eq_true', Bool.not_eq_false'] at hb))
            | (apply d_draw; (focus exact mixed); (focus ((simp only [List.size_toArray, List.length_cons, List.length_nil, Nat.reduceAdd]; try rfl); done)))
            | (apply d_done; (focus decide +kernel))
            | ((first | (apply d_take 0; (focus decide +kernel)) | (apply d_take 1; (focus decide +kernel)) | (apply d_take 2; (focus decide +kernel)) | (apply d_take 3; (focus decide +kernel)) | (apply d_take 4; (focus decide +kernel)) | (apply d_take 5; (focus decide +kernel)) | (apply d_take 6; (focus decide +kernel)) | (apply d_take 7; (focus decide +kernel)) | (apply d_take 8; (focus decide +kernel)) | (apply d_take 9; (focus decide +kernel)) | (apply d_take 10; (focus decide +kernel)) | (apply d_take 11; (focus decide +kernel)) | (apply d_take 12; (focus decide +kernel)) | (apply d_take 13; (focus decide +kernel)) | (apply d_take 14; (focus decide +kernel)) | (apply d_take 15; (focus decide +kernel)) | (apply d_take 16; (focus decide +kernel)) | (apply d_take 17; (focus decide +kernel))); (focus (first | exact qds_FPost | exact qds_RPost | exact qds_YB | assumption)); (focus rfl); (iterate 3 (focus (simp only [go_sem, *, It.av]; (try rfl); done))); (focus rfl); (focus (simp only [go_sem, *, It.av]; (try rfl); done)); simp only [putA])
            | ((first | (apply d_unw 0; (focus decide +kernel)) | (apply d_unw 1; (focus decide +kernel)) | (apply d_unw 2; (focus decide +kernel)) | (apply d_unw 3; (focus decide +kernel)) | (apply d_unw 4; (focus decide +kernel)) | (apply d_unw 5; (focus decide +kernel)) | (apply d_unw 6; (focus decide +kernel)) | (apply d_unw 7; (focus decide +kernel)) | (apply d_unw 8; (focus decide +kernel)) | (apply d_unw 9; (focus decide +kernel)) | (apply d_unw 10; (focus decide +kernel)) | (apply d_unw 11; (focus decide +kernel)) | (apply d_unw 12; (focus decide +kernel)) | (apply d_unw 13; (focus decide +kernel)) | (apply d_unw 14; (focus decide +kernel)) | (apply d_unw 15; (focus decide +kernel)) | (apply d_unw 16; (focus decide +kernel)) | (apply d_unw 17; (focus decide +kernel))); (focus (first | exact qds_FPost | exact qds_RPost | exact qds_YB | assumption)); (focus rfl); (iterate 2 (focus (simp only [go_sem, *, It.av]; (try rfl); done))); (focus rfl); simp only [putA])
            | (first | (apply d_one 0; (focus decide +kernel)) | (apply d_one 1; (focus decide +kernel)) | (apply d_one 2; (focus decide +kernel)) | (apply d_one 3; (focus decide +kernel)) | (apply d_one 4; (focus decide +kernel)) | (apply d_one 5; (focus decide +kernel)) | (apply d_one 6; (focus decide +kernel)) | (apply d_one 7; (focus decide +kernel)) | (apply d_one 8; (focus decide +kernel)) | (apply d_one 9; (focus decide +kernel)) | (apply d_one 10; (focus decide +kernel)) | (apply d_one 11; (focus decide +kernel)) | (apply d_one 12; (focus decide +kernel)) | (apply d_one 13; (focus decide +kernel)) | (apply d_one 14; (focus decide +kernel)) | (apply d_one 15; (focus decide +kernel)) | (apply d_one 16; (focus decide +kernel)) | (apply d_one 17; (focus decide +kernel)))
            | (apply o_step; (iterate 3 (focus (simp only [go_sem, *, It.av]; (try rfl); done))); (focus rfl); simp only [putA])
            | (apply o_unw; (iterate 2 (focus (simp only [go_sem, *, It.av]; (try rfl); done))); (focus rfl); simp only [putA])
            | apply pr_nil | apply pr_same | apply pr_go | apply pl_nil | apply pl_none | (apply pl_skip; (focus decide +kernel)) | (apply pl_one; (focus (simp only [go_sem, *, It.av]; (try rfl); done)))
          apply rp_n HLB.out HBB.out
          · (simp only [go_sem, *]; try rfl)
          · (simp only [go_sem, *]; try rfl)
          have key := hR1 _ [Blk.cells [AV.int .i64 (tmz r.items (k + 1) - f), AV.int .i64 x.kind, AV.int .i64 x.cols, AV.int .i64 x.rows, AV.str x.text], Blk.arr 29 5 0 0 [It.av { x with wait := tmz r.items (k + 1) - f }]] ⟨c, q, _, HC2.out, by simp, rfl⟩
          try simp only [List.length_append, List.length_cons, List.length_nil, Nat.zero_add, List.map_append, List.map_cons, List.map_nil, It.av] at key
          simpa only [app_assoc, List.cons_append, List.nil_append, List.append_nil, List.length_append, List.length_cons, List.length_nil, Nat.zero_add, It.av] using key
        · rw [if_neg c3] at hcut
          have HC2 := Lib.hid hcut
          have d5 : ((o.length : Int) == 0) = false := by
            have : 0 < o.length := List.length_pos_iff.2 c3
            simp; exact c3
          clear c1 c2 c3 hwr hcut
          repeat' first
            | apply x_seq | apply x_skip | apply x_block | apply x_exit | apply x_ret | apply x_ops_nil | apply p_blk | apply p_exit_it | apply p_exit_hit | apply p_ret_it | apply p_ret_blk | apply p_panic_it | apply p_panic_blk | apply p_end
            | (apply p_exit_miss; (focus rfl))
            | (apply x_region; simp only [List.toList_toArray])
            | (apply x_step0; (focus rfl); (focus (simp only [go_sem, *, It.av]; (try rfl); done)); (focus rfl); simp only [putA])
            | (apply x_panic; (focus (simp only [go_sem, *, It.av]; (try rfl); done)); (focus rfl); (focus (simp only [go_sem, *, It.av]; (try rfl); done)))
            | (apply x_step; (iterate 2 (focus (simp only [go_sem, *, It.av]; (try rfl); done))); (focus rfl); simp only [putA])
            | (apply x_unwanted; (focus (simp only [go_sem, *, It.av]; (try rfl); done)); (focus rfl); simp only [putA])
            | (apply x_condT; (focus (simp only [go_sem, *, It.av]; (try rfl); done)))
            | (apply x_condF; (focus (simp only [go_sem, *, It.av]; (try rfl); done)))
            | (apply x_guardS; (focus rfl); (fail_if_success (focus (show _ = some true; (focus (simp only [go_sem, *, It.av]; (try rfl); done))))); (focus (simp only [go_sem, *, It.av]; (try rfl); done)); all_goals (intro hb; try simp only [Bool.not_eq_true', Bool.not_eq_false'] at hb))
            | (apply x_condS; (focus (simp only [go_sem, *, It.av]; (try rfl); done)); all_goals (intro hb; try simp only [Bool.not_eq_true', Bool.not_eq_false'] at hb))
          apply yb_intro
          · (simp only [go_sem, *]; try rfl)
          · (simp only [go_sem, *]; try rfl)
          repeat' first
            | apply x_seq | apply x_skip | apply x_block | apply x_exit | apply x_ret | apply x_ops_nil | apply p_blk | apply p_exit_it | apply p_exit_hit | apply p_ret_it | apply p_ret_blk | apply p_panic_it | apply p_panic_blk | apply p_end
            | (apply p_exit_miss; (focus rfl))
            | (apply x_region; simp only [List.toList_toArray])
            | (apply x_step0; (focus rfl); (focus (simp only [go_sem, *, It.av]; (try rfl); done)); (focus rfl); simp only [putA])
            | (apply x_panic; (focus (simp only [go_sem, *, It.av]; (try rfl); done)); (focus rfl); (focus (simp only [go_sem, *, It.av]; (try rfl); done)))
            | (apply x_step; (iterate 2 (focus (simp only [go_sem, *, It.av]; (try rfl); done))); (focus rfl); simp only [putA])
            | (apply x_unwanted; (focus (simp only [go_sem, *, It.av]; (try rfl); done)); (focus rfl); simp only [putA])
            | (apply x_condT; (focus (simp only [go_sem, *, It.av]; (try rfl); done)))
            | (apply x_condF; (focus (simp only [go_sem, *, It.av]; (try rfl); done)))
            | (apply x_guardS; (focus rfl); (fail_if_success (focus (show _ = some true; (focus (simp only [go_sem, *, It.av]; (try rfl); done))))); (focus (simp only [go_sem, *, It.av]; (try rfl); done)); all_goals (intro hb; try simp only [Bool.not_eq_true', Bool.not_eq_false'] at hb))
            | (apply x_condS; (focus (simp only [go_sem, *, It.av]; (try rfl); done)); all_goals (intro hb; try simp only [Bool.not_eq_true', Bool.not_eq_false'] at hb))
            | (apply d_draw; (focus exact mixed); (focus ((simp only [List.size_toArray, List.length_cons, List.length_nil, Nat.reduceAdd]; try rfl); done)))
            | (apply d_done; (focus decide +kernel))
            | ((first | (apply d_take 0; (focus decide +kernel)) | (apply d_take 1; (focus decide +kernel)) | (apply d_take 2; (focus decide +kernel)) | (apply d_take 3; (focus decide +kernel)) | (apply d_take 4; (focus decide +kernel)) | (apply d_take 5; (focus decide +kernel)) | (apply d_take 6; (focus decide +kernel)) | (apply d_take 7; (focus decide +kernel)) | (apply d_take 8; (focus decide +kernel)) | (apply d_take 9; (focus decide +kernel)) | (apply d_take 10; (focus decide +kernel)) | (apply d_take 11; (focus decide +kernel)) | (apply d_take 12; (focus decide +kernel)) | (apply d_take 13; (focus decide +kernel)) | (apply d_take 14; (focus decide +kernel)) | (apply d_take 15; (focus decide +kernel)) | (apply d_take 16; (focus decide +kernel)) | (apply d_take 17; (focus decide +kernel))); (focus (first | exact qds_FPost | exact qds_RPost | exact qds_YB | assumption)); (focus rfl); (iterate 3 (focus (simp only [go_sem, *, It.av]; (try rfl); done))); (focus rfl); (focus (simp only [go_sem, *, It.av]; (try rfl); done)); simp only [putA])
            | ((first | (apply d_unw 0; (focus decide +kernel)) | (apply d_unw 1; (focus decide +kernel)) | (apply d_unw 2; (focus decide +kernel)) | (apply d_unw 3; (focus decide +kernel)) | (apply d_unw 4; (focus decide +kernel)) | (apply d_unw 5; (focus decide +kernel)) | (apply d_unw 6; (focus decide +kernel)) | (apply d_unw 7; (focus decide +kernel)) | (apply d_unw 8; (focus decide +kernel)) | (apply d_unw 9; (focus decide +kernel)) | (apply d_unw 10; (focus decide +kernel)) | (apply d_unw 11; (focus decide +kernel)) | (apply d_unw 12; (focus decide +kernel)) | (apply d_unw 13; (focus decide +kernel)) | (apply d_unw 14; (focus decide +kernel)) | (apply d_unw 15; (focus decide +kernel)) | (apply d_unw 16; (focus decide +kernel)) | (apply d_unw 17; (focus decide +kernel))); (focus (first | exact qds_FPost | exact qds_RPost | exact qds_YB | assumption)); (focus rfl); (iterate 2 (focus (simp only [go_sem, *, It.av]; (try rfl); done))); (focus rfl); simp only [putA])
            | (first | (apply d_one 0; (focus decide +kernel)) | (apply d_one 1; (focus decide +kernel)) | (apply d_one 2; (focus decide +kernel)) | (apply d_one 3; (focus decide +kernel)) | (apply d_one 4; (focus decide +kernel)) | (apply d_one 5; (focus decide +kernel)) | (apply d_one 6; (focus decide +kernel)) | (apply d_one 7; (focus decide +kernel)) | (apply d_one 8; (focus decide +kernel)) | (apply d_one 9; (focus decide +kernel)) | (apply d_one 10; (focus decide +kernel)) | (apply d_one 11; (focus decide +kernel)) | (apply d_one 12; (focus decide +kernel)) | (apply d_one 13; (focus decide +kernel)) | (apply d_one 14; (focus decide +kernel)) | (apply d_one 15; (focus decide +kernel)) | (apply d_one 16; (focus decide +kernel)) | (apply d_one 17; (focus decide +kernel)))
            | (apply o_step; (iterate 3 (focus (simp only [go_sem, *, It.av]; (try rfl); done))); (focus rfl); simp only [putA])
            | (apply o_unw; (iterate 2 (focus (simp only [go_sem, *, It.av]; (try rfl); done))); (focus rfl); simp only [putA])
            | apply pr_nil | apply pr_same | apply pr_go | apply pl_nil | apply pl_none | (apply pl_skip; (focus decide +kernel)) | (apply pl_one; (focus (simp only [go_sem, *, It.av]; (try rfl); done)))
          apply rp_n HLB.out HBB.out
          · (simp only [go_sem, *]; try rfl)
          · (simp only [go_sem, *]; try rfl)
          have key := hR1 _ [Blk.cells [AV.int .i64 x.wait, AV.int .i64 x.kind, AV.int .i64 x.cols, AV.int .i64 x.rows, AV.str x.text], Blk.arr 29 5 0 0 [It.av x]] ⟨c, q, _, HC2.out, by have := Hok.out; simp; omega, rfl⟩
          try simp only [List.length_append, List.length_cons, List.length_nil, Nat.zero_add, List.map_append, List.map_cons, List.map_nil, It.av] at key
          simpa only [app_assoc, List.cons_append, List.nil_append, List.append_nil, List.length_append, List.length_cons, List.length_nil, Nat.zero_add, It.av] using key
    · refine ⟨r.cols, r.rows, [], ?_, Nat.zero_le _, ?_⟩
      · simpa [tmz] using HFIN.out
      · simp only [app_assoc, List.cons_append, List.nil_append]
        rfl
    · rintro _ ⟨c, q, o, hcut, hok, rfl⟩
      rw [List.drop_length, cutL] at hcut
      subst hcut
      clear hok Hmx HFIN HW hw
      apply ar_none HLB.out rfl
      · (simp only [go_sem, *]; try rfl)
      · (simp only [go_sem, *]; try rfl)
      repeat' first
        | apply x_seq | apply x_skip | apply x_block | apply x_exit | apply x_ret | apply x_ops_nil | apply p_blk | apply p_exit_it | apply p_exit_hit | apply p_ret_it | apply p_ret_blk | apply p_panic_it | apply p_panic_blk | apply p_end
        | (apply p_exit_miss; (focus rfl))
        | (apply x_region; simp only [List.toList_toArray])
        | (apply x_step0; (focus rfl); (focus (simp only [go_sem, *]; (try rfl); done)); (focus rfl); simp only [putA])
        | (apply x_panic; (focus (simp only [go_sem, *]; (try rfl); done)); (focus rfl); (focus (simp only [go_sem, *]; (try rfl); done)))
        | (apply x_step; (iterate 2 (focus (simp only [go_sem, *]; (try rfl); done))); (focus rfl); simp only [putA])
        | (apply x_unwanted; (focus (simp only [go_sem, *]; (try rfl); done)); (focus rfl); simp only [putA])
        | (apply x_condT; (focus (simp only [go_sem, *]; (try rfl); done)))
        | (apply x_condF; (focus (simp only [go_sem, *]; (try rfl); done)))
        | (apply x_guardS; (focus rfl); (fail_if_success (focus (show _ = some true; (focus (simp only [go_sem, *]; (try rfl); done))))); (focus (simp only [go_sem, *]; (try rfl); done)); all_goals (intro hb; try simp only [Bool.not_eq_true', Bool.not_eq_false'] at hb))
        | (apply x_condS; (focus (simp only [go_sem, *]; (try rfl); done)); all_goals (intro hb; try simp only [Bool.not_eq_true', Bool.not_eq_false'] at hb))
      (apply f_ret; iterate 7 (focus (simp only [go_sem, *, Tryz.results20]; (try rfl); done)))
      exact h
    · rintro k _ ⟨DB, hDB, h7, rfl⟩
      clear Hmx HFIN HW hw
      refine ar_someL hDB (by (simp only [go_sem, *]; try rfl)) ?_
      intro XB
      simp only [len_app, List.length_cons, List.length_nil, Nat.zero_add, len_add, Nat.reduceAdd, app_assoc, List.cons_append, List.nil_append, set_new, List.set_cons_succ, List.set_cons_zero]
      repeat' first
        | apply x_seq | apply x_skip | apply x_block | apply x_exit | apply x_ret | apply x_ops_nil | apply p_blk | apply p_exit_it | apply p_exit_hit | apply p_ret_it | apply p_ret_blk | apply p_panic_it | apply p_panic_blk | apply p_end
        | (apply p_exit_miss; (focus rfl))
        | (apply x_region; simp only [List.toList_toArray])
        | (apply x_step0; (focus rfl); (focus (simp only [go_sem, *]; (try rfl); done)); (focus rfl); simp only [putA])
        | (apply x_panic; (focus (simp only [go_sem, *]; (try rfl); done)); (focus rfl); (focus (simp only [go_sem, *]; (try rfl); done)))
        | (apply x_step; (iterate 2 (focus (simp only [go_sem, *]; (try rfl); done))); (focus rfl); simp only [putA])
        | (apply x_unwanted; (focus (simp only [go_sem, *]; (try rfl); done)); (focus rfl); simp only [putA])
        | (apply x_condT; (focus (simp only [go_sem, *]; (try rfl); done)))
        | (apply x_condF; (focus (simp only [go_sem, *]; (try rfl); done)))
        | (apply x_guardS; (focus rfl); (fail_if_success (focus (show _ = some true; (focus (simp only [go_sem, *]; (try rfl); done))))); (focus (simp only [go_sem, *]; (try rfl); done)); all_goals (intro hb; try simp only [Bool.not_eq_true', Bool.not_eq_false'] at hb))
        | (apply x_condS; (focus (simp only [go_sem, *]; (try rfl); done)); all_goals (intro hb; try simp only [Bool.not_eq_true', Bool.not_eq_false'] at hb))
      (apply f_ret; iterate 7 (focus (simp only [go_sem, *, Tryz.results20]; (try rfl); done)))
      exact h
end Go.Proofs.YtnndmokndgnidaaGreatDoor
namespace Go.Proofs.YtnndmokndgnidaaGreatDoor
open Go Go.Fen
set_option linter.unusedSimpArgs false
set_option linter.unusedVariables false
attribute [local irreducible] RunX WP ACall AnyP OpA ProtL
set_option maxRecDepth 8000
def kindsL : List (AV × AV) := [(.int .u8 111, .int .i64 1), (.int .u8 105, .int .i64 2), (.int .u8 114, .int .i64 3), (.int .u8 109, .int .i64 4)]
set_option maxHeartbeats 400000 in
theorem kinds (w0 : World) (S : List Blk) (R : AOut → List Blk → Prop) (h : R (.ret (.mval kindsL)) S) : ACall Tryz.prog w0 32 [] S R := by
  refine enter Tryz.func32 rfl (by decide +kernel) (by rw [Tryz.ntmps32]; simp) (by rw [Tryz.ntmps32]; decide) (fun hO => ?_); rw [Tryz.ntmps32]
  repeat' first
    | apply x_seq | apply x_skip | apply x_block | apply x_exit | apply x_ret | apply x_ops_nil | apply p_blk | apply p_exit_it | apply p_exit_hit | apply p_ret_it | apply p_ret_blk | apply p_panic_it | apply p_panic_blk | apply p_end
    | (apply p_exit_miss; (focus rfl))
    | (apply x_region; simp only [List.toList_toArray])
    | (apply x_step0; (focus rfl); (focus (simp only [go_sem, *]; (try rfl); done)); (focus rfl); simp only [putA])
    | (apply x_panic; (focus (simp only [go_sem, *]; (try rfl); done)); (focus rfl); (focus (simp only [go_sem, *]; (try rfl); done)))
    | (apply x_step; (iterate 2 (focus (simp only [go_sem, *]; (try rfl); done))); (focus rfl); simp only [putA])
    | (apply x_unwanted; (focus (simp only [go_sem, *]; (try rfl); done)); (focus rfl); simp only [putA])
    | (apply x_condT; (focus (simp only [go_sem, *]; (try rfl); done)))
    | (apply x_condF; (focus (simp only [go_sem, *]; (try rfl); done)))
    | (apply x_guardS; (focus rfl); (fail_if_success (focus (show _ = some true; (focus (simp only [go_sem, *]; (try rfl); done))))); (focus (simp only [go_sem, *]; (try rfl); done)); all_goals (intro hb; try simp only [Bool.not_eq_true', Bool.not_eq_false'] at hb))
    | (apply x_condS; (focus (simp only [go_sem, *]; (try rfl); done)); all_goals (intro hb; try simp only [Bool.not_eq_true', Bool.not_eq_false'] at hb))
  (apply f_ret; iterate 7 (focus (simp only [go_sem, *, Tryz.results32]; (try rfl); done)))
  exact h
end Go.Proofs.YtnndmokndgnidaaGreatDoor
