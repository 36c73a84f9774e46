/- YtfnnjkbhmoomjaaGreatDoorWalk0. Texts of the proof of a law about texts: a layer of abstract values above the worlds, the types, the walks of the functions that the law reaches, the law and its card. Own work of an AI agent. -/
import Derived.Test.YtfnnjkbhmoomjaaGreatDoorCore2
import Derived.Test.YtfnnjkbhmoomjaaGreatDoorCore1
import Derived.Test.YtfnnjkbhmoomjaaGreatDoorTy
import Derived.Shelf.LaysM
import Derived.Shelf.Strconv.Itoa3
import Derived.Shelf.Abstract
import Derived.Lib.ItoaLen
import Derived.Lib.AppendIntMem
import Derived.Test.YtfnnjkbhmoomjaaGreatDoorShelf
import Derived.Lib.ItoaMem
set_option linter.all false
set_option linter.unusedVariables false
set_option linter.unusedSimpArgs false
namespace Go.Proofs.YtfnnjkbhmoomjaaGreatDoor
open Go Go.Fen
set_option linter.unusedSimpArgs false
set_option linter.unusedVariables false
attribute [local irreducible] RunX WP ACall AnyP OpA ProtL afterCall afterOp
set_option maxRecDepth 8000
def lenU (b : Nat) : Nat := if b < 128 then 1 else if b < 194 then 0 else if b < 224 then 2 else if b < 240 then 3 else if b < 245 then 4 else 0
def loU (b : Nat) : Nat := if b = 224 then 160 else if b = 240 then 144 else 128
def hiU (b : Nat) : Nat := if b = 237 then 159 else if b = 244 then 143 else 191
def contU : Nat → Nat → List Nat → Bool
  | _, _, [] => true
  | lo, hi, b :: r => decide (lo ≤ b) && (decide (b ≤ hi) && contU 128 191 r)
def kindU : List Nat → Nat
  | [] => 0
  | b :: r => if lenU b < r.length + 1 then 0 else if contU (loU b) (hiU b) r then (if r.length + 1 < lenU b then 1 else 2) else 0
def codeU : List Nat → Nat
  | [] => 0
  | b :: r => r.foldl (fun c x => c * 64 + x % 64) (if r = [] then b else b % 2 ^ (7 - (r.length + 1)))
def firstR (b : Nat) : Nat × Nat := if b < 128 then (1, b) else if b < 192 then (0, 0) else if b < 224 then (2, b - 192) else if b < 240 then (3, b - 224) else if b < 248 then (4, b - 240) else (0, 0)
def spanL : Nat → List Nat → Nat → Nat → Option (Nat × Nat)
  | 0, _, lo, hi => some (lo, hi)
  | n + 1, [], lo, hi => spanL n [] (lo * 64) (hi * 64 + 63)
  | n + 1, b :: r, lo, hi => if b < 128 ∨ 191 < b then none else spanL n r (lo * 64 + (b - 128)) (hi * 64 + (b - 128))
def spanR : List Nat → Nat × Nat × Nat
  | [] => (0, 0, 0)
  | b :: r => match spanL ((firstR b).1 - 1) r (firstR b).2 (firstR b).2 with
    | none => (0, 0, 0)
    | some (lo, hi) => if (firstR b).1 < r.length + 1 then (0, 0, 0) else (lo, hi, (firstR b).1)
def leastR : Nat → Nat | 2 => 128 | 3 => 2048 | 4 => 65536 | _ => 0
def mostR : Nat → Nat | 1 => 127 | 2 => 2047 | 3 => 65535 | 4 => 1114111 | _ => 0
def goesR (p : List Nat) : Bool × Bool :=
  let s := spanR p
  if s.2.2 = 0 then (false, false) else
    let lo := max s.1 (leastR s.2.2)
    let hi := min s.2.1 (mostR s.2.2)
    let is := decide (lo ≤ hi) && !(decide (55296 ≤ lo) && decide (hi ≤ 57343))
    (is, is && decide (p.length = s.2.2))
theorem first_cases (a : Nat) :
    (a < 128 ∧ firstR a = (1, a) ∧ lenU a = 1) ∨ ((128 ≤ a ∧ a < 192 ∨ 248 ≤ a) ∧ firstR a = (0, 0) ∧ lenU a = 0) ∨ (192 ≤ a ∧ a < 194 ∧ firstR a = (2, a - 192) ∧ lenU a = 0) ∨
    (194 ≤ a ∧ a < 224 ∧ firstR a = (2, a - 192) ∧ lenU a = 2) ∨ (224 ≤ a ∧ a < 240 ∧ firstR a = (3, a - 224) ∧ lenU a = 3) ∨ (240 ≤ a ∧ a < 245 ∧ firstR a = (4, a - 240) ∧ lenU a = 4) ∨ (245 ≤ a ∧ a < 248 ∧ firstR a = (4, a - 240) ∧ lenU a = 0) := by
  unfold firstR lenU
  repeat' split
  all_goals simp
  all_goals omega
theorem contU_bad (a : Nat) {b : Nat} {r : List Nat} (hb : b < 128 ∨ 191 < b) : contU (loU a) (hiU a) (b :: r) = false := by
  have h1 : 128 ≤ loU a := by
    unfold loU
    repeat' split
    all_goals omega
  have h2 : hiU a ≤ 191 := by
    unfold hiU
    repeat' split
    all_goals omega
  rw [contU, Bool.and_eq_false_iff]
  rcases hb with hb | hb
  · left; simp; omega
  · right; rw [Bool.and_eq_false_iff]; left; simp; omega
theorem kindU_bad (a : Nat) {b : Nat} {r : List Nat} (hb : b < 128 ∨ 191 < b) : kindU (a :: b :: r) = 0 := by
  rw [kindU, contU_bad a hb]
  simp
theorem goes_kind (p : List Nat) : goesR p = (decide (kindU p ≠ 0), decide (kindU p = 2)) := by
  match p with
  | [] => rfl
  | [a] =>
    rcases first_cases a with ⟨h1, hF, hL⟩ | ⟨h1, hF, hL⟩ | ⟨h1, h2, hF, hL⟩ | ⟨h1, h2, hF, hL⟩ | ⟨h1, h2, hF, hL⟩ | ⟨h1, h2, hF, hL⟩ | ⟨h1, h2, hF, hL⟩
    all_goals simp [goesR, spanR, kindU, hF, hL, spanL, leastR, mostR, contU]
    all_goals omega
  | [a, b] =>
    by_cases hb : b < 128 ∨ 191 < b
    · rw [kindU_bad (r := []) a hb]
      rcases first_cases a with ⟨h1, hF, hL⟩ | ⟨h1, hF, hL⟩ | ⟨h1, h2, hF, hL⟩ | ⟨h1, h2, hF, hL⟩ | ⟨h1, h2, hF, hL⟩ | ⟨h1, h2, hF, hL⟩ | ⟨h1, h2, hF, hL⟩
      all_goals simp only [goesR, spanR, hF, spanL, if_pos hb, Nat.reduceSub]
      all_goals simp
    · rcases first_cases a with ⟨h1, hF, hL⟩ | ⟨h1, hF, hL⟩ | ⟨h1, h2, hF, hL⟩ | ⟨h1, h2, hF, hL⟩ | ⟨h1, h2, hF, hL⟩ | ⟨h1, h2, hF, hL⟩ | ⟨h1, h2, hF, hL⟩
      all_goals simp only [goesR, spanR, kindU, hF, hL, spanL, if_neg hb, contU, loU, hiU, Nat.reduceSub]
      all_goals (try simp [leastR, mostR])
      all_goals (try refine ⟨?_, ?_⟩)
      all_goals (repeat' split)
      all_goals first
        | omega
        | (rw [Bool.eq_iff_iff]; simp only [Bool.and_eq_true, Bool.or_eq_true, decide_eq_true_eq, Bool.not_eq_true', decide_eq_false_iff_not]; omega)
        | simp
  | [a, b, c] =>
    by_cases hb : b < 128 ∨ 191 < b
    · rw [kindU_bad (r := [c]) a hb]
      rcases first_cases a with ⟨h1, hF, hL⟩ | ⟨h1, hF, hL⟩ | ⟨h1, h2, hF, hL⟩ | ⟨h1, h2, hF, hL⟩ | ⟨h1, h2, hF, hL⟩ | ⟨h1, h2, hF, hL⟩ | ⟨h1, h2, hF, hL⟩
      all_goals simp only [goesR, spanR, hF, spanL, if_pos hb, Nat.reduceSub]
      all_goals simp
    · by_cases hc : c < 128 ∨ 191 < c
      · have hk : kindU [a, b, c] = 0 := by
          rw [kindU, contU, contU]
          have e : (decide (128 ≤ c) && (decide (c ≤ 191) && contU 128 191 [])) = false := by
            rcases hc with hc | hc
            · simp; omega
            · simp; omega
          rw [e]
          simp
        rw [hk]
        rcases first_cases a with ⟨h1, hF, hL⟩ | ⟨h1, hF, hL⟩ | ⟨h1, h2, hF, hL⟩ | ⟨h1, h2, hF, hL⟩ | ⟨h1, h2, hF, hL⟩ | ⟨h1, h2, hF, hL⟩ | ⟨h1, h2, hF, hL⟩
        all_goals simp only [goesR, spanR, hF, spanL, if_neg hb, if_pos hc, Nat.reduceSub]
        all_goals simp
      · rcases first_cases a with ⟨h1, hF, hL⟩ | ⟨h1, hF, hL⟩ | ⟨h1, h2, hF, hL⟩ | ⟨h1, h2, hF, hL⟩ | ⟨h1, h2, hF, hL⟩ | ⟨h1, h2, hF, hL⟩ | ⟨h1, h2, hF, hL⟩
        all_goals simp only [goesR, spanR, kindU, hF, hL, spanL, if_neg hb, if_neg hc, contU, loU, hiU, Nat.reduceSub]
        all_goals (try simp [leastR, mostR])
        all_goals (try refine ⟨?_, ?_⟩)
        all_goals (repeat' split)
        all_goals first
          | omega
          | (rw [Bool.eq_iff_iff]; simp only [Bool.and_eq_true, Bool.or_eq_true, decide_eq_true_eq, Bool.not_eq_true', decide_eq_false_iff_not]; omega)
          | simp
  | [a, b, c, d] =>
    by_cases hb : b < 128 ∨ 191 < b
    · rw [kindU_bad (r := [c, d]) a hb]
      rcases first_cases a with ⟨h1, hF, hL⟩ | ⟨h1, hF, hL⟩ | ⟨h1, h2, hF, hL⟩ | ⟨h1, h2, hF, hL⟩ | ⟨h1, h2, hF, hL⟩ | ⟨h1, h2, hF, hL⟩ | ⟨h1, h2, hF, hL⟩
      all_goals simp only [goesR, spanR, hF, spanL, if_pos hb, Nat.reduceSub]
      all_goals simp
    · by_cases hc : c < 128 ∨ 191 < c
      · have hk : kindU [a, b, c, d] = 0 := by
          rw [kindU, contU, contU]
          have e : (decide (128 ≤ c) && (decide (c ≤ 191) && contU 128 191 [d])) = false := by
            rcases hc with hc | hc
            · simp; omega
            · simp; omega
          rw [e]
          simp
        rw [hk]
        rcases first_cases a with ⟨h1, hF, hL⟩ | ⟨h1, hF, hL⟩ | ⟨h1, h2, hF, hL⟩ | ⟨h1, h2, hF, hL⟩ | ⟨h1, h2, hF, hL⟩ | ⟨h1, h2, hF, hL⟩ | ⟨h1, h2, hF, hL⟩
        all_goals simp only [goesR, spanR, hF, spanL, if_neg hb, if_pos hc, Nat.reduceSub]
        all_goals simp
      · by_cases hd : d < 128 ∨ 191 < d
        · have hk : kindU [a, b, c, d] = 0 := by
            rw [kindU, contU, contU, contU]
            have e : (decide (128 ≤ d) && (decide (d ≤ 191) && contU 128 191 [])) = false := by
              rcases hd with hd | hd
              · simp; omega
              · simp; omega
            rw [e]
            simp
          rw [hk]
          rcases first_cases a with ⟨h1, hF, hL⟩ | ⟨h1, hF, hL⟩ | ⟨h1, h2, hF, hL⟩ | ⟨h1, h2, hF, hL⟩ | ⟨h1, h2, hF, hL⟩ | ⟨h1, h2, hF, hL⟩ | ⟨h1, h2, hF, hL⟩
          all_goals simp only [goesR, spanR, hF, spanL, if_neg hb, if_neg hc, if_pos hd, Nat.reduceSub]
          all_goals simp
        · rcases first_cases a with ⟨h1, hF, hL⟩ | ⟨h1, hF, hL⟩ | ⟨h1, h2, hF, hL⟩ | ⟨h1, h2, hF, hL⟩ | ⟨h1, h2, hF, hL⟩ | ⟨h1, h2, hF, hL⟩ | ⟨h1, h2, hF, hL⟩
          all_goals simp only [goesR, spanR, kindU, hF, hL, spanL, if_neg hb, if_neg hc, if_neg hd, contU, loU, hiU, Nat.reduceSub]
          all_goals (try simp [leastR, mostR])
          all_goals (try refine ⟨?_, ?_⟩)
          all_goals (repeat' split)
          all_goals first
            | omega
            | (rw [Bool.eq_iff_iff]; simp only [Bool.and_eq_true, Bool.or_eq_true, decide_eq_true_eq, Bool.not_eq_true', decide_eq_false_iff_not]; omega)
            | simp
  | a :: b :: c :: d :: e :: r =>
    have hl : lenU a ≤ 4 := by unfold lenU; repeat' split
                               all_goals omega
    have hf : (firstR a).1 ≤ 4 := by unfold firstR; repeat' split
                                     all_goals simp
    have hk : kindU (a :: b :: c :: d :: e :: r) = 0 := by
      rw [kindU, if_pos (by simp; omega)]
    have hs : spanR (a :: b :: c :: d :: e :: r) = (0, 0, 0) := by
      rw [spanR]
      cases spanL ((firstR a).1 - 1) (b :: c :: d :: e :: r) (firstR a).2 (firstR a).2 with
      | none => rfl
      | some q => simp only []; rw [if_pos (by simp; omega)]
    rw [hk]
    simp [goesR, hs]
theorem cont_bnd {lo hi : Nat} {l : List Nat} (h : contU lo hi l = true) (h1 : 128 ≤ lo) (h2 : hi ≤ 191) : ∀ x ∈ l, 128 ≤ x ∧ x ≤ 191 := by
  induction l generalizing lo hi with
  | nil => intro x hx; cases hx
  | cons b r ih =>
    simp only [contU, Bool.and_eq_true, decide_eq_true_eq] at h
    intro x hx
    rcases List.mem_cons.1 hx with rfl | hx
    · omega
    · exact ih h.2.2 (Nat.le_refl _) (Nat.le_refl _) x hx
theorem loU_ge (a : Nat) : 128 ≤ loU a := by
  unfold loU
  repeat' split
  all_goals omega
theorem hiU_le (a : Nat) : hiU a ≤ 191 := by
  unfold hiU
  repeat' split
  all_goals omega
theorem kind2 {a : Nat} {r : List Nat} (h : kindU (a :: r) = 2) : lenU a = r.length + 1 ∧ ∀ x ∈ r, 128 ≤ x ∧ x ≤ 191 := by
  rw [kindU] at h
  split at h
  · cases h
  · split at h
    · next hc =>
      split at h
      · cases h
      · exact ⟨by omega, cont_bnd hc (loU_ge a) (hiU_le a)⟩
    · cases h
theorem span_code {p : List Nat} (h : kindU p = 2) : (spanR p).1 = codeU p := by
  match p with
  | [] => rfl
  | [a] =>
    obtain ⟨h1, _⟩ := kind2 h
    rcases first_cases a with ⟨h2, hF, hL⟩ | ⟨h2, hF, hL⟩ | ⟨h2, h3, hF, hL⟩ | ⟨h2, h3, hF, hL⟩ | ⟨h2, h3, hF, hL⟩ | ⟨h2, h3, hF, hL⟩ | ⟨h2, h3, hF, hL⟩
    all_goals (rw [hL] at h1; simp at h1)
    simp [spanR, hF, spanL, codeU]
  | [a, b] =>
    obtain ⟨h1, hb⟩ := kind2 h
    have hb := hb b (by simp)
    have nb : ¬ (b < 128 ∨ 191 < b) := by omega
    rcases first_cases a with ⟨h2, hF, hL⟩ | ⟨h2, hF, hL⟩ | ⟨h2, h3, hF, hL⟩ | ⟨h2, h3, hF, hL⟩ | ⟨h2, h3, hF, hL⟩ | ⟨h2, h3, hF, hL⟩ | ⟨h2, h3, hF, hL⟩
    all_goals (rw [hL] at h1; simp at h1)
    simp only [spanR, hF, spanL, if_neg nb, codeU]
    simp
    omega
  | [a, b, c] =>
    obtain ⟨h1, hb⟩ := kind2 h
    have hc := hb c (by simp)
    have hb := hb b (by simp)
    have nb : ¬ (b < 128 ∨ 191 < b) := by omega
    have nc : ¬ (c < 128 ∨ 191 < c) := by omega
    rcases first_cases a with ⟨h2, hF, hL⟩ | ⟨h2, hF, hL⟩ | ⟨h2, h3, hF, hL⟩ | ⟨h2, h3, hF, hL⟩ | ⟨h2, h3, hF, hL⟩ | ⟨h2, h3, hF, hL⟩ | ⟨h2, h3, hF, hL⟩
    all_goals (rw [hL] at h1; simp at h1)
    simp only [spanR, hF, spanL, if_neg nb, if_neg nc, codeU, Nat.reduceSub]
    simp
    omega
  | [a, b, c, d] =>
    obtain ⟨h1, hb⟩ := kind2 h
    have hc := hb c (by simp)
    have hd := hb d (by simp)
    have hb := hb b (by simp)
    have nb : ¬ (b < 128 ∨ 191 < b) := by omega
    have nc : ¬ (c < 128 ∨ 191 < c) := by omega
    have nd : ¬ (d < 128 ∨ 191 < d) := by omega
    rcases first_cases a with ⟨h2, hF, hL⟩ | ⟨h2, hF, hL⟩ | ⟨h2, h3, hF, hL⟩ | ⟨h2, h3, hF, hL⟩ | ⟨h2, h3, hF, hL⟩ | ⟨h2, h3, hF, hL⟩ | ⟨h2, h3, hF, hL⟩
    all_goals (rw [hL] at h1; simp at h1)
    simp only [spanR, hF, spanL, if_neg nb, if_neg nc, if_neg nd, codeU, Nat.reduceSub]
    simp
    omega
  | a :: b :: c :: d :: e :: r =>
    obtain ⟨h1, _⟩ := kind2 h
    rcases first_cases a with ⟨h2, hF, hL⟩ | ⟨h2, hF, hL⟩ | ⟨h2, h3, hF, hL⟩ | ⟨h2, h3, hF, hL⟩ | ⟨h2, h3, hF, hL⟩ | ⟨h2, h3, hF, hL⟩ | ⟨h2, h3, hF, hL⟩
    all_goals (rw [hL] at h1; simp at h1)
def rightU (p : List Nat) : Bool := decide (p = []) || decide (kindU p = 1)
def step1 (b : Nat) : List Nat × List Nat := if kindU [b] = 2 then ([], [codeU [b]]) else if kindU [b] = 1 then ([b], []) else ([], [65533])
def stepU (p : List Nat) (b : Nat) : List Nat × List Nat :=
  if kindU (p ++ [b]) = 2 then ([], [codeU (p ++ [b])]) else if kindU (p ++ [b]) = 1 then (p ++ [b], []) else if p = [] then ([], [65533]) else ((step1 b).1, 65533 :: (step1 b).2)
def flushU (p : List Nat) : List Nat := if p = [] then [] else [65533]
def codesF : List Nat → List Nat → List Nat
  | p, [] => flushU p
  | p, b :: s => (stepU p b).2 ++ codesF (stepU p b).1 s
def codesU (s : List Nat) : List Nat := codesF [] s
theorem right_nil : rightU [] = true := rfl
theorem step1_right (b : Nat) : rightU (step1 b).1 = true := by
  unfold step1
  split
  · rfl
  · split
    · next h => simp [rightU, h]
    · rfl
theorem stepU_right (p : List Nat) (b : Nat) : rightU (stepU p b).1 = true := by
  unfold stepU
  split
  · rfl
  · split
    · next h => simp [rightU, h]
    · split
      · rfl
      · exact step1_right b
theorem kind1 {a : Nat} {r : List Nat} (h : kindU (a :: r) = 1) : r.length + 1 < lenU a ∧ lenU a ≤ 4 ∧ ∀ x ∈ r, 128 ≤ x ∧ x ≤ 191 := by
  have h4 : lenU a ≤ 4 := by
    unfold lenU
    repeat' split
    all_goals omega
  rw [kindU] at h
  split at h
  · cases h
  · split at h
    · next hc =>
      split at h
      · next h2 => exact ⟨h2, h4, cont_bnd hc (loU_ge a) (hiU_le a)⟩
      · cases h
    · cases h
theorem right_len {p : List Nat} (h : rightU p = true) : p.length ≤ 3 := by
  cases p with
  | nil => simp
  | cons a r =>
    simp only [rightU, Bool.or_eq_true, decide_eq_true_eq] at h
    rcases h with h | h
    · cases h
    · obtain ⟨h1, h2, _⟩ := kind1 h
      simp; omega
def okU (cp : Nat) : Bool := decide (cp ≤ 1114111) && !(decide (55296 ≤ cp) && decide (cp ≤ 57343))
def putN (cp : Nat) : List Nat :=
  if cp < 128 then [cp] else if cp < 2048 then [192 + cp / 64, 128 + cp % 64] else if cp < 65536 then [224 + cp / 4096, 128 + cp / 64 % 64, 128 + cp % 64] else [240 + cp / 262144, 128 + cp / 4096 % 64, 128 + cp / 64 % 64, 128 + cp % 64]
def putU (cp : Nat) : List Nat := putN (if okU cp then cp else 65533)
def textU (l : List Nat) : List Nat := l.flatMap putU
theorem putN_byte (cp : Nat) (h : cp ≤ 1114111) : ∀ x ∈ putN cp, x < 256 := by
  unfold putN
  intro x hx
  repeat' split at hx
  all_goals (simp at hx; omega)
theorem putU_byte (cp : Nat) : ∀ x ∈ putU cp, x < 256 := by
  unfold putU
  split
  · next h => exact putN_byte cp (by simp [okU] at h; omega)
  · exact putN_byte _ (by omega)
def By (x : Nat) : AV := .int .u8 x
def Co (x : Nat) : AV := .int .i64 x
@[go_sem] theorem By.plainL (l : List Nat) : plainL (l.map By) = true := plainL_map (fun _ => rfl) l
@[go_sem] theorem By.ltL (l : List Nat) (n : Nat) : ltL n (l.map By) = true := ltL_iff.2 fun x hx => by obtain ⟨y, _, rfl⟩ := List.mem_map.1 hx; rfl
@[go_sem] theorem By.ok (l : List Nat) : okEls 1 (l.map By) = true := by
  unfold okEls; rw [List.all_eq_true]; intro x hx; obtain ⟨y, _, rfl⟩ := List.mem_map.1 hx; rfl
@[go_sem] theorem Co.plainL (l : List Nat) : plainL (l.map Co) = true := plainL_map (fun _ => rfl) l
@[go_sem] theorem Co.ltL (l : List Nat) (n : Nat) : ltL n (l.map Co) = true := ltL_iff.2 fun x hx => by obtain ⟨y, _, rfl⟩ := List.mem_map.1 hx; rfl
@[go_sem] theorem Co.ok (l : List Nat) : okEls 1 (l.map Co) = true := by
  unfold okEls; rw [List.all_eq_true]; intro x hx; obtain ⟨y, _, rfl⟩ := List.mem_map.1 hx; rfl
end Go.Proofs.YtfnnjkbhmoomjaaGreatDoor
namespace Go.Proofs.YtfnnjkbhmoomjaaGreatDoor
open Go Go.Fen
set_option linter.unusedSimpArgs false
set_option linter.unusedVariables false
attribute [local irreducible] RunX WP ACall AnyP OpA ProtL afterCall afterOp
set_option maxRecDepth 8000
def bAV (b : UInt8) : AV := .int .u8 (b.toNat : Int)
theorem bytesOf_map (l : List UInt8) : bytesOf (l.map bAV) = some l := by
  induction l with
  | nil => rfl
  | cons x l ih => simp [bytesOf, bAV, ih]
theorem okBytes_map (l : List UInt8) : okBytes (l.map bAV) = true := by
  unfold okBytes
  rw [List.all_eq_true]
  intro x hx
  obtain ⟨b, _, rfl⟩ := List.mem_map.1 hx
  have := b.toNat_lt
  simp [bAV]; omega
@[go_sem] theorem bAV_ok (l : List UInt8) : okEls 1 (l.map bAV) = true := by
  unfold okEls; rw [List.all_eq_true]; intro x hx; obtain ⟨y, _, rfl⟩ := List.mem_map.1 hx; rfl
@[go_sem] theorem bAV_plainL (l : List UInt8) : plainL (l.map bAV) = true := plainL_map (fun _ => rfl) l
@[go_sem] theorem bAV_ltL (l : List UInt8) (n : Nat) : ltL n (l.map bAV) = true := ltL_iff.2 fun x hx => by obtain ⟨y, _, rfl⟩ := List.mem_map.1 hx; rfl
def hexC (n : Nat) : UInt8 := if n < 10 then UInt8.ofNat (48 + n) else UInt8.ofNat (87 + n)
def hexD1 (b : UInt8) : Option Nat :=
  if 48 ≤ b.toNat ∧ b.toNat ≤ 57 then some (b.toNat - 48)
  else if 97 ≤ b.toNat ∧ b.toNat ≤ 102 then some (b.toNat - 87)
  else if 65 ≤ b.toNat ∧ b.toNat ≤ 70 then some (b.toNat - 55) else none
def hexV (a b : UInt8) : Option Nat :=
  match hexD1 a, hexD1 b with
  | some x, some y => some (x * 16 + y)
  | _, _ => none
theorem hexD1_lt {a : UInt8} {x : Nat} (h : hexD1 a = some x) : x < 16 := by
  unfold hexD1 at h
  split at h
  · cases h; omega
  · split at h
    · cases h; omega
    · split at h
      · cases h; omega
      · cases h
theorem hexV_lt {a b : UInt8} {v : Nat} (h : hexV a b = some v) : v < 256 := by
  unfold hexV at h
  split at h
  · next x y hx hy =>
    cases h
    have := hexD1_lt hx
    have := hexD1_lt hy
    omega
  · cases h
end Go.Proofs.YtfnnjkbhmoomjaaGreatDoor
namespace Go.Proofs.YtfnnjkbhmoomjaaGreatDoor
open Go Go.Fen
set_option linter.unusedSimpArgs false
set_option linter.unusedVariables false
attribute [local irreducible] RunX WP ACall AnyP OpA ProtL afterCall afterOp
set_option maxRecDepth 8000
set_option maxHeartbeats 1000000 in
theorem uLen (w0 : World) (S : List Blk) (b : Nat) (R : AOut → List Blk → Prop) (h : R (.ret (.int .i64 (lenU b : Nat))) S) : ACall Tryz.prog w0 170 [.int .u8 b] S R := by
  refine enter Tryz.func170 rfl (by decide +kernel) (by rw [Tryz.ntmps170]; simp) (by rw [Tryz.ntmps170]; decide) (fun hO => ?_); rw [Tryz.ntmps170]
  repeat' first | refine st ?_ | (refine br ?_ ?_; all_goals (intro hb; try simp only [Bool.not_eq_true', Bool.not_eq_false'] at hb)) | fail
  all_goals (apply f_ret; iterate 7 (· simp only [go_sem, *, Tryz.results170]; try rfl))
  all_goals
    refine cast (congrArg (fun v => R (.ret (.int .i64 v)) S) ?_) h
    simp only [decide_eq_true_eq, decide_eq_false_iff_not] at *
    unfold lenU
    repeat' split
    all_goals first | omega | rfl | decide
set_option maxHeartbeats 1000000 in
theorem uSecond (w0 : World) (S : List Blk) (b : Nat) (R : AOut → List Blk → Prop) (h : R (.ret (.tup [.int .u8 (loU b : Nat), .int .u8 (hiU b : Nat)])) S) : ACall Tryz.prog w0 171 [.int .u8 b] S R := by
  refine enter Tryz.func171 rfl (by decide +kernel) (by rw [Tryz.ntmps171]; simp) (by rw [Tryz.ntmps171]; decide) (fun hO => ?_); rw [Tryz.ntmps171]
  repeat' first | refine st ?_ | (refine br ?_ ?_; all_goals (intro hb; try simp only [Bool.not_eq_true', Bool.not_eq_false'] at hb)) | fail
  all_goals (apply f_ret; iterate 7 (· simp only [go_sem, *, Tryz.results171]; try rfl))
  all_goals
    simp only [beq_iff_eq, beq_eq_false_iff_ne, ne_eq, decide_eq_true_eq, decide_eq_false_iff_not] at *
    have e1 : (b = 224) = ((b : Int) = 224) := by simp; omega
    have e2 : (b = 237) = ((b : Int) = 237) := by simp; omega
    have e3 : (b = 240) = ((b : Int) = 240) := by simp; omega
    have e4 : (b = 244) = ((b : Int) = 244) := by simp; omega
    unfold loU hiU at h
    simpa [e1, e2, e3, e4, *] using h
set_option maxHeartbeats 1000000 in
theorem uCheck (w0 : World) (S : List Blk) (cp : Nat) (R : AOut → List Blk → Prop) (h : R (.ret (.bool (okU cp))) S) : ACall Tryz.prog w0 134 [.int .i64 cp] S R := by
  refine enter Tryz.func134 rfl (by decide +kernel) (by rw [Tryz.ntmps134]; simp) (by rw [Tryz.ntmps134]; decide) (fun hO => ?_); rw [Tryz.ntmps134]
  repeat' first | refine st ?_ | (refine br ?_ ?_; all_goals (intro hb; try simp only [Bool.not_eq_true', Bool.not_eq_false'] at hb)) | fail
  all_goals (apply f_ret; iterate 7 (· simp only [go_sem, *, Tryz.results134]; try rfl))
  all_goals
    have e : (cp : Int).fdiv (2 ^ min 11 64) = ((cp / 2048 : Nat) : Int) := by
      rw [show (2 : Int) ^ min 11 64 = 2048 by decide, Int.fdiv_eq_ediv_of_nonneg _ (by omega)]
      omega
    refine cast (congrArg (fun v => R (.ret (.bool v)) S) ?_) h
    simp only [decide_eq_true_eq, decide_eq_false_iff_not] at hb
    unfold okU
    first
    | (rw [Bool.eq_iff_iff, e]; simp only [Bool.and_eq_true, decide_eq_true_eq, Bool.not_eq_true', Bool.and_eq_false_iff, decide_eq_false_iff_not, bne_iff_ne, ne_eq]; omega)
    | (rw [Bool.and_eq_false_iff]; left; simp only [decide_eq_false_iff_not]; omega)
set_option maxHeartbeats 4000000 in
theorem uKind (w0 : World) (S : List Blk) (p : List Nat) (h1 : p ≠ []) (h4 : p.length ≤ 4) (R : AOut → List Blk → Prop) (h : R (.ret (.int .i64 (kindU p : Nat))) S) : ACall Tryz.prog w0 157 [.sval false (p.map By)] S R := by
  match p, h1, h4 with
  | [a], _, _ =>
    have hl := fun S' => uLen w0 S' a
    have hs := fun S' => uSecond w0 S' a
    obtain ⟨n, hn⟩ : ∃ n, lenU a = n := ⟨_, rfl⟩
    obtain ⟨lo, hlo⟩ : ∃ n, loU a = n := ⟨_, rfl⟩
    obtain ⟨hi, hhi⟩ : ∃ n, hiU a = n := ⟨_, rfl⟩
    have hk : kindU [a] = if n < ([] : List Nat).length + 1 then 0 else if contU lo hi ([] : List Nat) then (if ([] : List Nat).length + 1 < n then 1 else 2) else 0 := by rw [kindU, hn, hlo, hhi]
    rw [hn] at hl
    rw [hlo, hhi] at hs
    simp only [List.map_cons, List.map_nil, By]
    clear h1 h4 hn hlo hhi
    have HK := Lib.hid hk
    clear hk
    refine enter Tryz.func157 rfl (by decide +kernel) (by rw [Tryz.ntmps157]; simp) (by rw [Tryz.ntmps157]; decide) (fun hO => ?_); rw [Tryz.ntmps157]
    repeat' first | refine st ?_ | (refine ca ?_; first | apply hl | apply hs) | (refine br ?_ ?_; all_goals (intro hb; try simp only [Bool.not_eq_true', Bool.not_eq_false'] at hb)) | apply x_loop | apply x_lp | fail
    all_goals (apply f_ret; iterate 7 (· simp only [go_sem, *, Tryz.results157]; try rfl))
    all_goals
      refine cast (congrArg (fun v => R (.ret (.int .i64 v)) S) ?_) h
      rw [HK.out]
      simp only [contU, List.length_cons, List.length_nil, Bool.and_eq_true, decide_eq_true_eq, decide_eq_false_iff_not, Bool.true_eq_false, and_true] at *
      repeat' split
      all_goals first | omega | rfl | (exact absurd trivial (by assumption))
  | [a, b], _, _ =>
    have hl := fun S' => uLen w0 S' a
    have hs := fun S' => uSecond w0 S' a
    obtain ⟨n, hn⟩ : ∃ n, lenU a = n := ⟨_, rfl⟩
    obtain ⟨lo, hlo⟩ : ∃ n, loU a = n := ⟨_, rfl⟩
    obtain ⟨hi, hhi⟩ : ∃ n, hiU a = n := ⟨_, rfl⟩
    have hk : kindU [a, b] = if n < ([b] : List Nat).length + 1 then 0 else if contU lo hi ([b] : List Nat) then (if ([b] : List Nat).length + 1 < n then 1 else 2) else 0 := by rw [kindU, hn, hlo, hhi]
    rw [hn] at hl
    rw [hlo, hhi] at hs
    simp only [List.map_cons, List.map_nil, By]
    clear h1 h4 hn hlo hhi
    have HK := Lib.hid hk
    clear hk
    refine enter Tryz.func157 rfl (by decide +kernel) (by rw [Tryz.ntmps157]; simp) (by rw [Tryz.ntmps157]; decide) (fun hO => ?_); rw [Tryz.ntmps157]
    repeat' first | refine st ?_ | (refine ca ?_; first | apply hl | apply hs) | (refine br ?_ ?_; all_goals (intro hb; try simp only [Bool.not_eq_true', Bool.not_eq_false'] at hb)) | apply x_loop | apply x_lp | fail
    all_goals (apply f_ret; iterate 7 (· simp only [go_sem, *, Tryz.results157]; try rfl))
    all_goals
      refine cast (congrArg (fun v => R (.ret (.int .i64 v)) S) ?_) h
      rw [HK.out]
      simp only [contU, List.length_cons, List.length_nil, Bool.and_eq_true, decide_eq_true_eq, decide_eq_false_iff_not, Bool.true_eq_false, and_true] at *
      repeat' split
      all_goals first | omega | rfl | (exact absurd trivial (by assumption))
  | [a, b, c], _, _ =>
    have hl := fun S' => uLen w0 S' a
    have hs := fun S' => uSecond w0 S' a
    obtain ⟨n, hn⟩ : ∃ n, lenU a = n := ⟨_, rfl⟩
    obtain ⟨lo, hlo⟩ : ∃ n, loU a = n := ⟨_, rfl⟩
    obtain ⟨hi, hhi⟩ : ∃ n, hiU a = n := ⟨_, rfl⟩
    have hk : kindU [a, b, c] = if n < ([b, c] : List Nat).length + 1 then 0 else if contU lo hi ([b, c] : List Nat) then (if ([b, c] : List Nat).length + 1 < n then 1 else 2) else 0 := by rw [kindU, hn, hlo, hhi]
    rw [hn] at hl
    rw [hlo, hhi] at hs
    simp only [List.map_cons, List.map_nil, By]
    clear h1 h4 hn hlo hhi
    have HK := Lib.hid hk
    clear hk
    refine enter Tryz.func157 rfl (by decide +kernel) (by rw [Tryz.ntmps157]; simp) (by rw [Tryz.ntmps157]; decide) (fun hO => ?_); rw [Tryz.ntmps157]
    repeat' first | refine st ?_ | (refine ca ?_; first | apply hl | apply hs) | (refine br ?_ ?_; all_goals (intro hb; try simp only [Bool.not_eq_true', Bool.not_eq_false'] at hb)) | apply x_loop | apply x_lp | fail
    all_goals (apply f_ret; iterate 7 (· simp only [go_sem, *, Tryz.results157]; try rfl))
    all_goals
      refine cast (congrArg (fun v => R (.ret (.int .i64 v)) S) ?_) h
      rw [HK.out]
      simp only [contU, List.length_cons, List.length_nil, Bool.and_eq_true, decide_eq_true_eq, decide_eq_false_iff_not, Bool.true_eq_false, and_true] at *
      repeat' split
      all_goals first | omega | rfl | (exact absurd trivial (by assumption))
  | [a, b, c, d], _, _ =>
    have hl := fun S' => uLen w0 S' a
    have hs := fun S' => uSecond w0 S' a
    obtain ⟨n, hn⟩ : ∃ n, lenU a = n := ⟨_, rfl⟩
    obtain ⟨lo, hlo⟩ : ∃ n, loU a = n := ⟨_, rfl⟩
    obtain ⟨hi, hhi⟩ : ∃ n, hiU a = n := ⟨_, rfl⟩
    have hk : kindU [a, b, c, d] = if n < ([b, c, d] : List Nat).length + 1 then 0 else if contU lo hi ([b, c, d] : List Nat) then (if ([b, c, d] : List Nat).length + 1 < n then 1 else 2) else 0 := by rw [kindU, hn, hlo, hhi]
    rw [hn] at hl
    rw [hlo, hhi] at hs
    simp only [List.map_cons, List.map_nil, By]
    clear h1 h4 hn hlo hhi
    have HK := Lib.hid hk
    clear hk
    refine enter Tryz.func157 rfl (by decide +kernel) (by rw [Tryz.ntmps157]; simp) (by rw [Tryz.ntmps157]; decide) (fun hO => ?_); rw [Tryz.ntmps157]
    repeat' first | refine st ?_ | (refine ca ?_; first | apply hl | apply hs) | (refine br ?_ ?_; all_goals (intro hb; try simp only [Bool.not_eq_true', Bool.not_eq_false'] at hb)) | apply x_loop | apply x_lp | fail
    all_goals (apply f_ret; iterate 7 (· simp only [go_sem, *, Tryz.results157]; try rfl))
    all_goals
      refine cast (congrArg (fun v => R (.ret (.int .i64 v)) S) ?_) h
      rw [HK.out]
      simp only [contU, List.length_cons, List.length_nil, Bool.and_eq_true, decide_eq_true_eq, decide_eq_false_iff_not, Bool.true_eq_false, and_true] at *
      repeat' split
      all_goals first | omega | rfl | (exact absurd trivial (by assumption))
theorem uRight (w0 : World) (S : List Blk) (p : List Nat) (h4 : p.length ≤ 4) (R : AOut → List Blk → Prop) (h : R (.ret (.bool (rightU p))) S) : ACall Tryz.prog w0 156 [.sval false (p.map By)] S R := by
  by_cases hp : p = []
  · subst hp
    rw [right_nil] at h
    simp only [List.map_nil]
    have e0 : (((0 : Nat) : Int) == 0) = true := rfl
    clear h4
    refine enter Tryz.func156 rfl (by decide +kernel) (by rw [Tryz.ntmps156]; simp) (by rw [Tryz.ntmps156]; decide) (fun hO => ?_); rw [Tryz.ntmps156]
    repeat' first | refine st ?_ | (refine br ?_ ?_; all_goals (intro hb; try simp only [Bool.not_eq_true', Bool.not_eq_false'] at hb)) | fail
    (apply f_ret; iterate 7 (· simp only [go_sem, *, Tryz.results156]; try rfl))
    exact h
  · have hk := fun S' => uKind w0 S' p hp h4
    have hl : ((p.length : Int) == 0) = false := by
      rw [beq_eq_false_iff_ne]
      intro e
      exact hp (List.length_eq_zero_iff.1 (by omega))
    have hr : rightU p = ((kindU p : Int) == 1) := by
      unfold rightU
      rw [decide_eq_false hp, Bool.false_or, Bool.eq_iff_iff, decide_eq_true_eq, beq_iff_eq]
      omega
    rw [hr] at h
    clear hr hp h4
    refine enter Tryz.func156 rfl (by decide +kernel) (by rw [Tryz.ntmps156]; simp) (by rw [Tryz.ntmps156]; decide) (fun hO => ?_); rw [Tryz.ntmps156]
    repeat' first | refine st ?_ | (refine ca ?_; first | apply hk) | (refine br ?_ ?_; all_goals (intro hb; try simp only [Bool.not_eq_true', Bool.not_eq_false'] at hb)) | fail
    (apply f_ret; iterate 7 (· simp only [go_sem, *, Tryz.results156]; try rfl))
    exact h
theorem shl6 {c x : Nat} (hc : c < 32768) (hx : x < 64) : IntKind.i64.wrap (((BitVec.ofInt IntKind.i64.bits (IntKind.i64.wrap ((c : Int) * 2 ^ min 6 64)) ||| BitVec.ofInt IntKind.i64.bits (x : Int)).toNat : Nat) : Int) = ((c * 64 + x : Nat) : Int) := by
  have e1 : IntKind.i64.wrap ((c : Int) * 2 ^ min 6 64) = ((c * 64 : Nat) : Int) := by
    rw [show (2 : Int) ^ min 6 64 = 64 by decide, IntWalk.i64_in _ (by omega)]
    omega
  rw [e1, BitVec.toNat_or]
  have e2 : (BitVec.ofInt IntKind.i64.bits ((c * 64 : Nat) : Int)).toNat = c * 64 := by
    show (BitVec.ofInt 64 _).toNat = _
    rw [BitVec.toNat_ofInt]; omega
  have e3 : (BitVec.ofInt IntKind.i64.bits (x : Int)).toNat = x := by
    show (BitVec.ofInt 64 _).toNat = _
    rw [BitVec.toNat_ofInt]; omega
  rw [e2, e3]
  have e4 : c * 64 ||| x = c * 64 + x := by
    have := Nat.shiftLeft_add_eq_or_of_lt (b := x) (i := 6) (by omega) c
    rw [Nat.shiftLeft_eq] at this
    exact this.symm
  rw [e4]
  exact IntWalk.i64_in _ (by omega)
theorem and63 {b : Nat} (hb : b < 256) : IntKind.i64.wrap (IntKind.u8.wrap (((BitVec.ofInt IntKind.u8.bits (b : Int) &&& BitVec.ofInt IntKind.u8.bits 63).toNat : Nat) : Int)) = ((b % 64 : Nat) : Int) := by
  rw [BitVec.toNat_and]
  have e1 : (BitVec.ofInt IntKind.u8.bits (b : Int)).toNat = b := by
    show (BitVec.ofInt 8 _).toNat = _
    rw [BitVec.toNat_ofInt]; omega
  have e2 : (BitVec.ofInt IntKind.u8.bits 63).toNat = 63 := by decide
  rw [e1, e2, show b &&& 63 = b % 64 from Nat.and_two_pow_sub_one_eq_mod b 6, IntWalk.u8_in _ (by omega)]
  exact IntWalk.i64_in _ (by omega)
theorem andM {b k : Nat} (hb : b < 256) (hk : k ≤ 8) : IntKind.i64.wrap (((BitVec.ofInt IntKind.i64.bits (b : Int) &&& BitVec.ofInt IntKind.i64.bits ((2 ^ k - 1 : Nat) : Int)).toNat : Nat) : Int) = ((b % 2 ^ k : Nat) : Int) := by
  rw [BitVec.toNat_and]
  have h2 : 2 ^ k ≤ 2 ^ 8 := Nat.pow_le_pow_right (by omega) hk
  have h0 : 0 < 2 ^ k := Nat.two_pow_pos k
  have e1 : (BitVec.ofInt IntKind.i64.bits (b : Int)).toNat = b := by
    show (BitVec.ofInt 64 _).toNat = _
    rw [BitVec.toNat_ofInt]; omega
  have e2 : (BitVec.ofInt IntKind.i64.bits ((2 ^ k - 1 : Nat) : Int)).toNat = 2 ^ k - 1 := by
    show (BitVec.ofInt 64 _).toNat = _
    rw [BitVec.toNat_ofInt]; omega
  rw [e1, e2, Nat.and_two_pow_sub_one_eq_mod b k]
  have := Nat.mod_lt b h0
  exact IntWalk.i64_in _ (by omega)
set_option maxHeartbeats 4000000 in
theorem uCode (w0 : World) (S : List Blk) (p : List Nat) (hk : kindU p = 2) (hb : ∀ x ∈ p, x < 256) (R : AOut → List Blk → Prop) (h : R (.ret (.int .i64 (codeU p : Nat))) S) : ACall Tryz.prog w0 158 [.sval false (p.map By)] S R := by
  match p with
  | [] => cases hk
  | [a] =>
    have h : R (.ret (.int .i64 a)) S := h
    simp only [List.map_cons, List.map_nil, By]
    have ha := hb a (by simp)
    have hw : IntKind.i64.wrap (a : Int) = a := IntWalk.i64_in _ (by omega)
    clear hb hk
    refine enter Tryz.func158 rfl (by decide +kernel) (by rw [Tryz.ntmps158]; simp) (by rw [Tryz.ntmps158]; decide) (fun hO => ?_); rw [Tryz.ntmps158]
    repeat' first | refine st ?_ | (refine br ?_ ?_; all_goals (intro hb; try simp only [Bool.not_eq_true', Bool.not_eq_false'] at hb)) | apply x_loop | apply x_lp | fail
    all_goals (apply f_ret; iterate 7 (· simp only [go_sem, *, Tryz.results158]; try rfl))
    exact h
  | [a, b] =>
    simp only [List.map_cons, List.map_nil, By]
    have ha := hb a (by simp)
    have hw : IntKind.i64.wrap (a : Int) = a := IntWalk.i64_in _ (by omega)
    have gf : (255 : Int).fdiv (2 ^ min (IntKind.i64.wrap (((2 : Nat) : Int) + 1)).toNat 64) = ((2 ^ 5 - 1 : Nat) : Int) := by decide
    have ga := andM (b := a) (k := 5) ha (by omega)
    obtain ⟨c0, hc0⟩ : ∃ c0, a % 2 ^ 5 = c0 := ⟨_, rfl⟩
    have hc0l : c0 < 32 := by rw [← hc0]; exact Nat.mod_lt _ (by decide)
    rw [hc0] at ga
    have gb := and63 (hb b (by simp))
    have mb : b % 64 < 64 := Nat.mod_lt _ (by omega)
    have q1 := shl6 (c := c0) (x := b % 64) (by omega) mb
    obtain ⟨c1, hc1⟩ : ∃ cc, c0 * 64 + b % 64 = cc := ⟨_, rfl⟩
    have hc1l : c1 < 2048 := by omega
    rw [hc1] at q1
    have hcode : codeU [a, b] = c1 := by
      have e : codeU [a, b] = a % 2 ^ (7 - (1 + 1)) * 64 + b % 64 := rfl
      rw [e]
      have e2 : a % 2 ^ 5 = a % (2 ^ (7 - (1 + 1))) := rfl
      omega
    rw [hcode] at h
    clear hb hk hcode ha
    simp only [IntKind.bits] at ga gb q1
    refine enter Tryz.func158 rfl (by decide +kernel) (by rw [Tryz.ntmps158]; simp) (by rw [Tryz.ntmps158]; decide) (fun hO => ?_); rw [Tryz.ntmps158]
    repeat' first | refine st ?_ | (refine br ?_ ?_; all_goals (intro hb; try simp only [Bool.not_eq_true', Bool.not_eq_false'] at hb)) | apply x_loop | apply x_lp | fail
    all_goals (apply f_ret; iterate 7 (· simp only [go_sem, *, Tryz.results158]; try rfl))
    exact h
  | [a, b, c] =>
    simp only [List.map_cons, List.map_nil, By]
    have ha := hb a (by simp)
    have hw : IntKind.i64.wrap (a : Int) = a := IntWalk.i64_in _ (by omega)
    have gf : (255 : Int).fdiv (2 ^ min (IntKind.i64.wrap (((3 : Nat) : Int) + 1)).toNat 64) = ((2 ^ 4 - 1 : Nat) : Int) := by decide
    have ga := andM (b := a) (k := 4) ha (by omega)
    obtain ⟨c0, hc0⟩ : ∃ c0, a % 2 ^ 4 = c0 := ⟨_, rfl⟩
    have hc0l : c0 < 16 := by rw [← hc0]; exact Nat.mod_lt _ (by decide)
    rw [hc0] at ga
    have gb := and63 (hb b (by simp))
    have mb : b % 64 < 64 := Nat.mod_lt _ (by omega)
    have q1 := shl6 (c := c0) (x := b % 64) (by omega) mb
    obtain ⟨c1, hc1⟩ : ∃ cc, c0 * 64 + b % 64 = cc := ⟨_, rfl⟩
    have hc1l : c1 < 1024 := by omega
    rw [hc1] at q1
    have gc := and63 (hb c (by simp))
    have mc : c % 64 < 64 := Nat.mod_lt _ (by omega)
    have q2 := shl6 (c := c1) (x := c % 64) (by omega) mc
    obtain ⟨c2, hc2⟩ : ∃ cc, c1 * 64 + c % 64 = cc := ⟨_, rfl⟩
    have hc2l : c2 < 65536 := by omega
    rw [hc2] at q2
    have hcode : codeU [a, b, c] = c2 := by
      have e : codeU [a, b, c] = (a % 2 ^ (7 - (2 + 1)) * 64 + b % 64) * 64 + c % 64 := rfl
      rw [e]
      have e2 : a % 2 ^ 4 = a % (2 ^ (7 - (2 + 1))) := rfl
      omega
    rw [hcode] at h
    clear hb hk hcode ha
    simp only [IntKind.bits] at ga gb q1 gc q2
    refine enter Tryz.func158 rfl (by decide +kernel) (by rw [Tryz.ntmps158]; simp) (by rw [Tryz.ntmps158]; decide) (fun hO => ?_); rw [Tryz.ntmps158]
    repeat' first | refine st ?_ | (refine br ?_ ?_; all_goals (intro hb; try simp only [Bool.not_eq_true', Bool.not_eq_false'] at hb)) | apply x_loop | apply x_lp | fail
    all_goals (apply f_ret; iterate 7 (· simp only [go_sem, *, Tryz.results158]; try rfl))
    exact h
  | [a, b, c, d] =>
    simp only [List.map_cons, List.map_nil, By]
    have ha := hb a (by simp)
    have hw : IntKind.i64.wrap (a : Int) = a := IntWalk.i64_in _ (by omega)
    have gf : (255 : Int).fdiv (2 ^ min (IntKind.i64.wrap (((4 : Nat) : Int) + 1)).toNat 64) = ((2 ^ 3 - 1 : Nat) : Int) := by decide
    have ga := andM (b := a) (k := 3) ha (by omega)
    obtain ⟨c0, hc0⟩ : ∃ c0, a % 2 ^ 3 = c0 := ⟨_, rfl⟩
    have hc0l : c0 < 8 := by rw [← hc0]; exact Nat.mod_lt _ (by decide)
    rw [hc0] at ga
    have gb := and63 (hb b (by simp))
    have mb : b % 64 < 64 := Nat.mod_lt _ (by omega)
    have q1 := shl6 (c := c0) (x := b % 64) (by omega) mb
    obtain ⟨c1, hc1⟩ : ∃ cc, c0 * 64 + b % 64 = cc := ⟨_, rfl⟩
    have hc1l : c1 < 512 := by omega
    rw [hc1] at q1
    have gc := and63 (hb c (by simp))
    have mc : c % 64 < 64 := Nat.mod_lt _ (by omega)
    have q2 := shl6 (c := c1) (x := c % 64) (by omega) mc
    obtain ⟨c2, hc2⟩ : ∃ cc, c1 * 64 + c % 64 = cc := ⟨_, rfl⟩
    have hc2l : c2 < 32768 := by omega
    rw [hc2] at q2
    have gd := and63 (hb d (by simp))
    have md : d % 64 < 64 := Nat.mod_lt _ (by omega)
    have q3 := shl6 (c := c2) (x := d % 64) (by omega) md
    obtain ⟨c3, hc3⟩ : ∃ cc, c2 * 64 + d % 64 = cc := ⟨_, rfl⟩
    have hc3l : c3 < 2097152 := by omega
    rw [hc3] at q3
    have hcode : codeU [a, b, c, d] = c3 := by
      have e : codeU [a, b, c, d] = ((a % 2 ^ (7 - (3 + 1)) * 64 + b % 64) * 64 + c % 64) * 64 + d % 64 := rfl
      rw [e]
      have e2 : a % 2 ^ 3 = a % (2 ^ (7 - (3 + 1))) := rfl
      omega
    rw [hcode] at h
    clear hb hk hcode ha
    simp only [IntKind.bits] at ga gb q1 gc q2 gd q3
    refine enter Tryz.func158 rfl (by decide +kernel) (by rw [Tryz.ntmps158]; simp) (by rw [Tryz.ntmps158]; decide) (fun hO => ?_); rw [Tryz.ntmps158]
    repeat' first | refine st ?_ | (refine br ?_ ?_; all_goals (intro hb; try simp only [Bool.not_eq_true', Bool.not_eq_false'] at hb)) | apply x_loop | apply x_lp | fail
    all_goals (apply f_ret; iterate 7 (· simp only [go_sem, *, Tryz.results158]; try rfl))
    exact h
  | a :: b :: c :: d :: e :: r =>
    obtain ⟨h1, _⟩ := kind2 hk
    have : lenU a ≤ 4 := by
      unfold lenU
      repeat' split
      all_goals omega
    simp at h1
    omega
end Go.Proofs.YtfnnjkbhmoomjaaGreatDoor
namespace Go.Proofs.YtfnnjkbhmoomjaaGreatDoor
open Go Go.Fen
set_option linter.unusedSimpArgs false
set_option linter.unusedVariables false
attribute [local irreducible] RunX WP ACall AnyP OpA ProtL afterCall afterOp
set_option maxRecDepth 8000
@[go_sem] theorem By.all1 (l : List Nat) : ((l.map By).all fun el => el.cells.length == 1) = true := by
  rw [List.all_eq_true]; intro x hx; obtain ⟨y, _, rfl⟩ := List.mem_map.1 hx; rfl
set_option maxHeartbeats 1000000 in
theorem uFlush (w0 : World) (S : List Blk) (p : List Nat) (hr : rightU p = true) (R : AOut → List Blk → Prop) (h : R (.ret (.sval false ((flushU p).map Co))) S) : ACall Tryz.prog w0 133 [.sval false (p.map By)] S R := by
  have hri := fun S' => uRight w0 S' p (Nat.le_succ_of_le (right_len hr))
  rw [hr] at hri
  by_cases hp : p = []
  · subst hp
    have h : R (.ret (.sval false [])) S := h
    have e0 : decide ((0 : Int) < ((0 : Nat) : Int)) = false := rfl
    simp only [List.map_nil]
    clear hr hri
    refine enter Tryz.func133 rfl (by decide +kernel) (by rw [Tryz.ntmps133]; simp) (by rw [Tryz.ntmps133]; decide) (fun hO => ?_); rw [Tryz.ntmps133]
    repeat' first | refine st ?_ | (refine br ?_ ?_; all_goals (intro hb; try simp only [Bool.not_eq_true', Bool.not_eq_false'] at hb)) | fail
    (apply f_ret; iterate 7 (· simp only [go_sem, *, Tryz.results133]; try rfl))
    exact h
  · have hl : decide ((0 : Int) < (p.length : Int)) = true := by
      cases p with
      | nil => exact absurd rfl hp
      | cons a r => simp only [List.length_cons, decide_eq_true_eq]; omega
    rw [flushU, if_neg hp] at h
    have h : R (.ret (.sval false [AV.int .i64 65533])) S := h
    clear hr hp
    refine enter Tryz.func133 rfl (by decide +kernel) (by rw [Tryz.ntmps133]; simp) (by rw [Tryz.ntmps133]; decide) (fun hO => ?_); rw [Tryz.ntmps133]
    repeat' first | refine st ?_ | (refine ca ?_; first | apply hri) | (refine br ?_ ?_; all_goals (intro hb; try simp only [Bool.not_eq_true', Bool.not_eq_false'] at hb)) | fail
    (apply f_ret; iterate 7 (· simp only [go_sem, *, Tryz.results133]; try rfl))
    exact h
def stepV (q : List Nat × List Nat) : AV := .tup [.sval false (q.1.map By), .sval false (q.2.map Co)]
set_option maxHeartbeats 4000000 in
theorem uStepG (w0 : World) (S : List Blk) (p : List Nat) (b : Nat) (hb : b < 256) (hr : rightU p = true) (hp : ∀ x ∈ p, x < 256)
    (hrec : p ≠ [] → ∀ (S' : List Blk) (R : AOut → List Blk → Prop), R (.ret (stepV (step1 b))) S' → ACall Tryz.prog w0 132 [.sval false [], .int .u8 b] S' R)
    (R : AOut → List Blk → Prop) (h : R (.ret (stepV (stepU p b))) S) : ACall Tryz.prog w0 132 [.sval false (p.map By), .int .u8 b] S R := by
  have hl3 := right_len hr
  have hri := fun S' => uRight w0 S' p (Nat.le_succ_of_le hl3)
  rw [hr] at hri
  have hk := fun S' => uKind w0 S' (p ++ [b]) (by simp) (by simp; omega)
  have hb1 : (p.length + 1) * 1 ≤ 140737488355328 := by omega
  have happ : List.map By p ++ [AV.int .u8 b] = List.map By (p ++ [b]) := by rw [List.map_append]; rfl
  have hlen : (p ++ [b]).length = p.length + 1 := by simp
  have htk : List.take p.length (List.map By p) = List.map By p := List.take_of_length_le (by simp)
  have hc := fun S' (hh : kindU (p ++ [b]) = 2) => uCode w0 S' (p ++ [b]) hh (by
    intro x hx
    rcases List.mem_append.1 hx with hx | hx
    · exact hp x hx
    · rw [List.mem_singleton.1 hx]; exact hb)
  have hall := By.all1 p
  simp only [AV.cells] at hall
  have okA := By.ok p
  simp only [okEls, AV.cells] at okA
  have hle : (p.length : Int) ≤ (p.length : Int) := Int.le_refl _
  have hbe : (p.length == p.length) = true := by simp
  unfold stepU at h
  have Happ := Lib.hid happ
  have Hc := Lib.hid hc
  have Hrec := Lib.hid hrec
  have H := Lib.hid h
  clear hp hb happ hc hrec h hl3 hr
  refine enter Tryz.func132 rfl (by decide +kernel) (by rw [Tryz.ntmps132]; simp) (by rw [Tryz.ntmps132]; decide) (fun hO => ?_); rw [Tryz.ntmps132]
  repeat' first | refine st ?_ | (refine ca ?_; first | apply hri) | (refine br ?_ ?_; all_goals (intro hb; try simp only [Bool.not_eq_true', Bool.not_eq_false'] at hb)) | fail
  rw [Happ.out]
  refine x_mark (S.length + 1) (by (simp only [go_sem, *]; try rfl)) ?_
  try simp only [go_sem, *]
  obtain ⟨kd, hkd⟩ : ∃ kd, kindU (p ++ [b]) = kd := ⟨_, rfl⟩
  rw [hkd] at hk
  have h012 : kd = 0 ∨ kd = 1 ∨ kd = 2 := by
    rw [← hkd]
    cases p with
    | nil => simp only [List.nil_append, kindU]; repeat' split
             all_goals simp
    | cons a r => simp only [List.cons_append, kindU]; repeat' split
                  all_goals simp
  rcases h012 with rfl | rfl | rfl
  · have hh := H.out
    rw [hkd, if_neg (by decide), if_neg (by decide)] at hh
    clear hkd
    by_cases hp : p = []
    · subst hp
      rw [if_pos rfl] at hh
      have e0 : (((0 : Nat) : Int) == 0) = true := rfl
      unfold stepV at hh
      simp only [List.map_cons, List.map_nil, Co] at hh
      repeat' first | refine st ?_ | (refine ca ?_; first | apply hk) | (refine br ?_ ?_; all_goals (intro hb; try simp only [Bool.not_eq_true', Bool.not_eq_false'] at hb)) | fail
      (apply f_ret; iterate 7 (· simp only [go_sem, *, Tryz.results132]; try rfl))
      exact hh
    · rw [if_neg hp] at hh
      have hrec := Hrec.out hp
      have hl0 : ((p.length : Int) == 0) = false := by
        rw [beq_eq_false_iff_ne]
        intro e
        exact hp (List.length_eq_zero_iff.1 (by omega))
      have hq1 : (step1 b).2.length ≤ 1 := by unfold step1; split <;> (try split) <;> simp
      generalize step1 b = q at hrec hh hq1
      obtain ⟨q1, q2⟩ := q
      unfold stepV at hh hrec
      simp only [List.map_cons, Co] at hh hrec hq1
      have okC := Co.ok q2
      simp only [okEls, AV.cells] at okC
      have hb8 : (1 + q2.length) * 8 ≤ 140737488355328 := by omega
      clear hp hq1
      repeat' first | refine st ?_ | (refine ca ?_; first | apply hk | apply hrec) | (refine br ?_ ?_; all_goals (intro hb; try simp only [Bool.not_eq_true', Bool.not_eq_false'] at hb)) | fail
      have hcm : (1 + q2.length = q2.length + 1) = True := by rw [Nat.add_comm]; simp
      (apply f_ret; iterate 7 (· simp only [go_sem, *, Tryz.results132]; try rfl))
      exact hh
  · have hh := H.out
    rw [hkd, if_neg (by decide), if_pos rfl] at hh
    unfold stepV at hh
    simp only [List.map_nil] at hh
    clear hkd
    repeat' first | refine st ?_ | (refine ca ?_; first | apply hk) | (refine br ?_ ?_; all_goals (intro hb; try simp only [Bool.not_eq_true', Bool.not_eq_false'] at hb)) | fail
    (apply f_ret; iterate 7 (· simp only [go_sem, *, Tryz.results132]; try rfl))
    exact hh
  · have hh := H.out
    rw [hkd, if_pos rfl] at hh
    have hc := fun S' => Hc.out S' hkd
    unfold stepV at hh
    simp only [List.map_cons, List.map_nil, Co] at hh
    clear hkd
    repeat' first | refine st ?_ | (refine ca ?_; first | apply hk | apply hc) | (refine br ?_ ?_; all_goals (intro hb; try simp only [Bool.not_eq_true', Bool.not_eq_false'] at hb)) | fail
    (apply f_ret; iterate 7 (· simp only [go_sem, *, Tryz.results132]; try rfl))
    exact hh
theorem uStep1 (w0 : World) (S : List Blk) (b : Nat) (hb : b < 256) (R : AOut → List Blk → Prop) (h : R (.ret (stepV (step1 b))) S) : ACall Tryz.prog w0 132 [.sval false [], .int .u8 b] S R := by
  refine uStepG w0 S [] b hb rfl (by simp) (fun hh => absurd rfl hh) R ?_
  have e : stepU [] b = step1 b := by unfold stepU step1; simp
  rw [e]; exact h
theorem uStep (w0 : World) (S : List Blk) (p : List Nat) (b : Nat) (hb : b < 256) (hr : rightU p = true) (hp : ∀ x ∈ p, x < 256) (R : AOut → List Blk → Prop) (h : R (.ret (stepV (stepU p b))) S) :
    ACall Tryz.prog w0 132 [.sval false (p.map By), .int .u8 b] S R :=
  uStepG w0 S p b hb hr hp (fun _ S' R h => uStep1 w0 S' b hb R h) R h
end Go.Proofs.YtfnnjkbhmoomjaaGreatDoor
namespace Go.Proofs.YtfnnjkbhmoomjaaGreatDoor
open Go Go.Fen
set_option linter.unusedSimpArgs false
set_option linter.unusedVariables false
attribute [local irreducible] RunX WP ACall AnyP OpA ProtL afterCall afterOp
set_option maxRecDepth 8000
theorem u8wrap (m : Nat) : IntKind.u8.wrap (m : Int) = ((m % 256 : Nat) : Int) := by
  have h : IntKind.u8.wrap (m : Int) = (m : Int) % 256 := by simp [IntKind.wrap, IntKind.signed, IntKind.bits]
  rw [h]
  omega
theorem or128 : ∀ x : Nat, x < 256 → IntKind.u8.wrap (((BitVec.ofInt IntKind.u8.bits 128 ||| BitVec.ofInt IntKind.u8.bits (IntKind.u8.wrap (((BitVec.ofInt IntKind.u8.bits (x : Int) &&& BitVec.ofInt IntKind.u8.bits 63).toNat : Nat) : Int))).toNat : Nat) : Int) = ((128 + x % 64 : Nat) : Int) := by decide +kernel
theorem or192 : ∀ x : Nat, x < 32 → IntKind.u8.wrap (((BitVec.ofInt IntKind.u8.bits 192 ||| BitVec.ofInt IntKind.u8.bits (x : Int)).toNat : Nat) : Int) = ((192 + x : Nat) : Int) := by decide +kernel
theorem or224 : ∀ x : Nat, x < 16 → IntKind.u8.wrap (((BitVec.ofInt IntKind.u8.bits 224 ||| BitVec.ofInt IntKind.u8.bits (x : Int)).toNat : Nat) : Int) = ((224 + x : Nat) : Int) := by decide +kernel
theorem or240 : ∀ x : Nat, x < 8 → IntKind.u8.wrap (((BitVec.ofInt IntKind.u8.bits 240 ||| BitVec.ofInt IntKind.u8.bits (x : Int)).toNat : Nat) : Int) = ((240 + x : Nat) : Int) := by decide +kernel
theorem fdp (cp k : Nat) (hk : k ≤ 64) : (cp : Int).fdiv (2 ^ min k 64) = ((cp / 2 ^ k : Nat) : Int) := by
  rw [Nat.min_eq_left hk, Int.fdiv_eq_ediv_of_nonneg _ (Int.le_of_lt (Int.pow_pos (by decide)))]
  rw [Int.natCast_ediv, Int.natCast_pow]
  rfl
set_option maxHeartbeats 1000000 in
theorem uPut1 (w0 : World) (S : List Blk) (a cp k : Nat) (hk : k ≤ 64) (ha : S[a]? = some (.cells [.int .i64 cp])) (R : AOut → List Blk → Prop) (h : R (.ret (.int .u8 (128 + cp / 2 ^ k % 64 : Nat))) S) :
    ACall Tryz.prog w0 135 [.int .i64 k, .own a 0] S R := by
  have hf := fdp cp k hk
  have hw := u8wrap (cp / 2 ^ k)
  have hx := or128 (cp / 2 ^ k % 256) (Nat.mod_lt _ (by decide))
  have hm : cp / 2 ^ k % 256 % 64 = cp / 2 ^ k % 64 := by omega
  have h0 : (0 : Int) ≤ (k : Int) := by omega
  rw [hm] at hx
  simp only [IntKind.bits] at hx
  clear hm hk
  refine enter Tryz.func135 rfl (by decide +kernel) (by rw [Tryz.ntmps135]; simp) (by rw [Tryz.ntmps135]; decide) (fun hO => ?_); rw [Tryz.ntmps135]
  repeat' first | refine st ?_ | (refine br ?_ ?_; all_goals (intro hb; try simp only [Bool.not_eq_true', Bool.not_eq_false'] at hb)) | fail
  (apply f_ret; iterate 7 (· simp only [go_sem, *, Tryz.results135]; try rfl))
  exact h
def putS (cp : Nat) : List UInt8 := (putU cp).map UInt8.ofNat
set_option maxHeartbeats 4000000 in
theorem uPut (w0 : World) (S : List Blk) (cp : Nat) (hb : cp < 4294967296) (R : AOut → List Blk → Prop) (h : R (.ret (.str (putS cp))) S) : ACall Tryz.prog w0 110 [.int .i64 cp] S R := by
  have hck := fun S' => uCheck w0 S' cp
  unfold putS putU at h
  cases hok : okU cp with
  | false =>
    rw [hok, if_neg (by decide)] at h
    rw [hok] at hck
    have h : R (.ret (.str [239, 191, 189])) S := h
    have c0 := fun S' ha => uPut1 w0 S' S.length 65533 0 (by decide) ha
    have c6 := fun S' ha => uPut1 w0 S' S.length 65533 6 (by decide) ha
    have q6 : (128 + 65533 / 2 ^ 6 % 64 : Nat) = 191 := rfl
    have q0 : (128 + 65533 / 2 ^ 0 % 64 : Nat) = 189 := rfl
    rw [q0] at c0
    rw [q6] at c6
    have k0 : (((0 : Nat) : Int)) = 0 := rfl
    have k6 : (((6 : Nat) : Int)) = 6 := rfl
    have kc : (((65533 : Nat) : Int)) = 65533 := rfl
    rw [k0] at c0
    rw [k6] at c6
    rw [kc] at c0 c6
    have z1 : IntKind.u8.wrap (((BitVec.ofInt IntKind.u8.bits 224 ||| BitVec.ofInt IntKind.u8.bits (IntKind.u8.wrap ((65533 : Int).fdiv (2 ^ min 12 64)))).toNat : Nat) : Int) = 239 := by decide
    simp only [IntKind.bits] at z1
    clear q0 q6 k0 k6 kc hb hok
    refine enter Tryz.func110 rfl (by decide +kernel) (by rw [Tryz.ntmps110]; simp) (by rw [Tryz.ntmps110]; decide) (fun hO => ?_); rw [Tryz.ntmps110]
    repeat' first | refine st ?_ | (refine ca ?_; first | apply hck | (apply c0; (· simp only [go_sem, *]; try rfl)) | (apply c6; (· simp only [go_sem, *]; try rfl))) | (refine br ?_ ?_; all_goals (intro hb; try simp only [Bool.not_eq_true', Bool.not_eq_false'] at hb)) | refine sd ?_ | apply pl_nil | (apply c_end; (· decide +kernel)) | refine bd ?_ ?_ | (refine cd ?_; first | apply hck | (apply c0; (· simp only [go_sem, *]; try rfl)) | (apply c6; (· simp only [go_sem, *]; try rfl))) | fail
    (apply f_ret; iterate 7 (· simp only [go_sem, *, Tryz.results110]; try rfl))
    exact h
  | true =>
    rw [hok, if_pos rfl] at h
    rw [hok] at hck
    have hle : cp ≤ 1114111 := by
      simp only [okU, Bool.and_eq_true, decide_eq_true_eq] at hok
      exact hok.1
    have c0 := fun S' ha => uPut1 w0 S' S.length cp 0 (by decide) ha
    have c6 := fun S' ha => uPut1 w0 S' S.length cp 6 (by decide) ha
    have c12 := fun S' ha => uPut1 w0 S' S.length cp 12 (by decide) ha
    have k0 : (((0 : Nat) : Int)) = 0 := rfl
    have k6 : (((6 : Nat) : Int)) = 6 := rfl
    have k12 : (((12 : Nat) : Int)) = 12 := rfl
    rw [k0] at c0
    rw [k6] at c6
    rw [k12] at c12
    have f6 := fdp cp 6 (by decide)
    have f12 := fdp cp 12 (by decide)
    have f18 := fdp cp 18 (by decide)
    have w0' := u8wrap cp
    have w6 := u8wrap (cp / 2 ^ 6)
    have w12 := u8wrap (cp / 2 ^ 12)
    have w18 := u8wrap (cp / 2 ^ 18)
    clear hok hb k0 k6 k12
    by_cases h1 : cp < 128
    · have d1 : decide ((cp : Int) < 128) = true := by simpa using (show (cp : Int) < 128 by omega)
      have e : putN cp = [cp] := by unfold putN; rw [if_pos h1]
      rw [e] at h
      rw [Nat.mod_eq_of_lt (show cp < 256 by omega)] at w0'
      have h : R (.ret (.str [UInt8.ofNat cp])) S := h
      clear e h1 hle c0 c6 c12 f6 f12 f18 w6 w12 w18
      refine enter Tryz.func110 rfl (by decide +kernel) (by rw [Tryz.ntmps110]; simp) (by rw [Tryz.ntmps110]; decide) (fun hO => ?_); rw [Tryz.ntmps110]
      repeat' first | refine st ?_ | (refine ca ?_; first | apply hck) | (refine br ?_ ?_; all_goals (intro hb; try simp only [Bool.not_eq_true', Bool.not_eq_false'] at hb)) | refine sd ?_ | apply pl_nil | (apply c_end; (· decide +kernel)) | refine bd ?_ ?_ | (refine cd ?_; first | apply hck) | fail
      (apply f_ret; iterate 7 (· simp only [go_sem, *, Tryz.results110]; try rfl))
      exact h
    have d1 : decide ((cp : Int) < 128) = false := by simp; omega
    by_cases h2 : cp < 2048
    · have d2 : decide ((cp : Int) < 2048) = true := by simp; omega
      have e : putN cp = [192 + cp / 2 ^ 6, 128 + cp / 2 ^ 0 % 64] := by unfold putN; rw [if_neg h1, if_pos h2]; simp
      rw [e] at h
      have h : R (.ret (.str [UInt8.ofNat (192 + cp / 2 ^ 6), UInt8.ofNat (128 + cp / 2 ^ 0 % 64)])) S := h
      have hx : cp / 2 ^ 6 < 32 := by omega
      have o := or192 _ hx
      rw [Nat.mod_eq_of_lt (show cp / 2 ^ 6 < 256 by omega)] at w6
      simp only [IntKind.bits] at o
      clear e h1 h2 hle c6 c12 f12 f18 w0' w12 w18
      refine enter Tryz.func110 rfl (by decide +kernel) (by rw [Tryz.ntmps110]; simp) (by rw [Tryz.ntmps110]; decide) (fun hO => ?_); rw [Tryz.ntmps110]
      repeat' first | refine st ?_ | (refine ca ?_; first | apply hck | (apply c0; (· simp only [go_sem, *]; try rfl))) | (refine br ?_ ?_; all_goals (intro hb; try simp only [Bool.not_eq_true', Bool.not_eq_false'] at hb)) | refine sd ?_ | apply pl_nil | (apply c_end; (· decide +kernel)) | refine bd ?_ ?_ | (refine cd ?_; first | apply hck | (apply c0; (· simp only [go_sem, *]; try rfl))) | fail
      (apply f_ret; iterate 7 (· simp only [go_sem, *, Tryz.results110]; try rfl))
      exact h
    have d2 : decide ((cp : Int) < 2048) = false := by simp; omega
    by_cases h3 : cp < 65536
    · have d3 : decide ((cp : Int) < 65536) = true := by simp; omega
      have e : putN cp = [224 + cp / 2 ^ 12, 128 + cp / 2 ^ 6 % 64, 128 + cp / 2 ^ 0 % 64] := by unfold putN; rw [if_neg h1, if_neg h2, if_pos h3]; simp
      rw [e] at h
      have h : R (.ret (.str [UInt8.ofNat (224 + cp / 2 ^ 12), UInt8.ofNat (128 + cp / 2 ^ 6 % 64), UInt8.ofNat (128 + cp / 2 ^ 0 % 64)])) S := h
      have hx : cp / 2 ^ 12 < 16 := by omega
      have o := or224 _ hx
      rw [Nat.mod_eq_of_lt (show cp / 2 ^ 12 < 256 by omega)] at w12
      simp only [IntKind.bits] at o
      clear e h1 h2 h3 hle c12 f6 f18 w0' w6 w18
      refine enter Tryz.func110 rfl (by decide +kernel) (by rw [Tryz.ntmps110]; simp) (by rw [Tryz.ntmps110]; decide) (fun hO => ?_); rw [Tryz.ntmps110]
      repeat' first | refine st ?_ | (refine ca ?_; first | apply hck | (apply c0; (· simp only [go_sem, *]; try rfl)) | (apply c6; (· simp only [go_sem, *]; try rfl))) | (refine br ?_ ?_; all_goals (intro hb; try simp only [Bool.not_eq_true', Bool.not_eq_false'] at hb)) | refine sd ?_ | apply pl_nil | (apply c_end; (· decide +kernel)) | refine bd ?_ ?_ | (refine cd ?_; first | apply hck | (apply c0; (· simp only [go_sem, *]; try rfl)) | (apply c6; (· simp only [go_sem, *]; try rfl))) | fail
      (apply f_ret; iterate 7 (· simp only [go_sem, *, Tryz.results110]; try rfl))
      exact h
    have d3 : decide ((cp : Int) < 65536) = false := by simp; omega
    have e : putN cp = [240 + cp / 2 ^ 18, 128 + cp / 2 ^ 12 % 64, 128 + cp / 2 ^ 6 % 64, 128 + cp / 2 ^ 0 % 64] := by unfold putN; rw [if_neg h1, if_neg h2, if_neg h3]; simp
    rw [e] at h
    have h : R (.ret (.str [UInt8.ofNat (240 + cp / 2 ^ 18), UInt8.ofNat (128 + cp / 2 ^ 12 % 64), UInt8.ofNat (128 + cp / 2 ^ 6 % 64), UInt8.ofNat (128 + cp / 2 ^ 0 % 64)])) S := h
    have hx : cp / 2 ^ 18 < 8 := by omega
    have o := or240 _ hx
    rw [Nat.mod_eq_of_lt (show cp / 2 ^ 18 < 256 by omega)] at w18
    simp only [IntKind.bits] at o
    clear e h1 h2 h3 hle f6 f12 w0' w6 w12
    refine enter Tryz.func110 rfl (by decide +kernel) (by rw [Tryz.ntmps110]; simp) (by rw [Tryz.ntmps110]; decide) (fun hO => ?_); rw [Tryz.ntmps110]
    repeat' first | refine st ?_ | (refine ca ?_; first | apply hck | (apply c0; (· simp only [go_sem, *]; try rfl)) | (apply c6; (· simp only [go_sem, *]; try rfl)) | (apply c12; (· simp only [go_sem, *]; try rfl))) | (refine br ?_ ?_; all_goals (intro hb; try simp only [Bool.not_eq_true', Bool.not_eq_false'] at hb)) | refine sd ?_ | apply pl_nil | (apply c_end; (· decide +kernel)) | refine bd ?_ ?_ | (refine cd ?_; first | apply hck | (apply c0; (· simp only [go_sem, *]; try rfl)) | (apply c6; (· simp only [go_sem, *]; try rfl)) | (apply c12; (· simp only [go_sem, *]; try rfl))) | fail
    (apply f_ret; iterate 7 (· simp only [go_sem, *, Tryz.results110]; try rfl))
    exact h
end Go.Proofs.YtfnnjkbhmoomjaaGreatDoor
namespace Go.Proofs.YtfnnjkbhmoomjaaGreatDoor
open Go Go.Fen
set_option linter.unusedSimpArgs false
set_option linter.unusedVariables false
attribute [local irreducible] RunX WP ACall AnyP OpA ProtL afterCall afterOp
set_option maxRecDepth 8000
def Tab (w0 : World) : Prop := Lib.TabIs Tryz.prog w0 "internal/strconv.uint64pow10" .u64 Lib.pow10Tab
theorem itoa (w0 : World) (hT : Tab w0) (S : List Blk) (n : Int) (h1 : -9223372036854775808 ≤ n) (h2 : n ≤ 9223372036854775807) (R : AOut → List Blk → Prop) (h : R (.ret (.str (Lib.itoa n))) S) : ACall Tryz.prog w0 53 [.int .i64 n] S R := by
  refine ACall.lib (vs := [.int .i64 n]) (v := .str (Lib.itoa n)) (Go.Proofs.enters_of Tryz.func53 (by kernel_rfl) rfl) rfl rfl ?_ h
  intro w hb
  refine (Go.Proofs.Any.strconv_Itoa Go.Proofs.Tryz.laysM171 n h1 h2 w (Lib.tabBelow_of_tabIs hT w hb)).mono ?_
  rintro e w' ⟨rfl, k, os, rfl⟩
  exact ⟨rfl, Lib.below_grow _ w (Nat.le_refl _) k os⟩
set_option maxHeartbeats 400000 in
theorem copyCheck0 (w0 : World) (S : List Blk) (a : Nat) (v : AV) (ha : S[a]? = some (.cells [.nilp, v] (some 82))) (hv : v.lt S.length = true) (hal : a < S.length) (R : AOut → List Blk → Prop) (h : R (.ret (.tup [])) (S.set a (.cells [.own a 0, v] (some 82)))) :
    ACall Tryz.prog w0 76 [.own a 0] S R := by
  refine enter Tryz.func76 rfl (by decide +kernel) (by rw [Tryz.ntmps76]; simp) (by rw [Tryz.ntmps76]; decide) (fun hO => ?_); rw [Tryz.ntmps76]
  repeat' first | refine st ?_ | (refine br ?_ ?_; all_goals (intro hb; try simp only [Bool.not_eq_true', Bool.not_eq_false'] at hb)) | fail
  refine x_ident (f := 107) (by (simp only [go_sem, *]; try rfl)) rfl rfl (fun c w => ?_) rfl (by (simp only [go_sem, *]; try rfl)) ?_
  · rw [run_callFunc_extern Tryz.func107 (by kernel_rfl) (by kernel_rfl) (by kernel_rfl) (by kernel_rfl), Lib.run_noEscape]; rfl
  simp only [putA]
  repeat' first | refine st ?_ | (refine br ?_ ?_; all_goals (intro hb; try simp only [Bool.not_eq_true', Bool.not_eq_false'] at hb)) | fail
  (apply f_endX; iterate 5 (· simp only [go_sem, *, Tryz.results76]; try rfl))
  · exact OuterOk.set hO (by simp [Blk.ltB, ltL, AV.lt, hv, hal])
  · simp
  · exact h
theorem copyCheck1 (w0 : World) (S : List Blk) (a : Nat) (v : AV) (ha : S[a]? = some (.cells [.own a 0, v] (some 82))) (R : AOut → List Blk → Prop) (h : R (.ret (.tup [])) S) :
    ACall Tryz.prog w0 76 [.own a 0] S R := by
  refine enter Tryz.func76 rfl (by decide +kernel) (by rw [Tryz.ntmps76]; simp) (by rw [Tryz.ntmps76]; decide) (fun hO => ?_); rw [Tryz.ntmps76]
  repeat' first | refine st ?_ | (refine br ?_ ?_; all_goals (intro hb; try simp only [Bool.not_eq_true', Bool.not_eq_false'] at hb)) | fail
  (apply f_end; iterate 7 (· simp only [go_sem, *, Tryz.results76]; try rfl))
  exact h
theorem all_true {α : Type _} (l : List α) : l.all (fun _ => true) = true := by simp
theorem pl_skip2 {ops : Array Oper} {i p : Nat} {q : List Nat} {prot : List (Nat × List Nat)} {S S' : List Blk} (hp : relB ops i p = false) (h : ProtL ops i prot S S') : ProtL ops i ((p, q) :: prot) S S' := pl_skip hp h
def Bld (S : List Blk) (a g i : Nat) (ad : AV) (bs : List UInt8) : Prop :=
  S[a]? = some (.cells [ad, .sown g i bs.length] (some 82)) ∧ S[g]? = some (.arr 5 1 0 i (bs.map bAV)) ∧ (ad = .nilp ∨ ad = .own a 0)
set_option maxHeartbeats 1000000 in
theorem writeString (w0 : World) (S : List Blk) (a g i : Nat) (ad : AV) (bs s : List UInt8) (hb : Bld S a g i ad bs) (hlen : (bs.length + s.length) * 1 ≤ 140737488355328) (R : AOut → List Blk → Prop)
    (h : R (.ret (.tup [.int .i64 s.length, .inil])) ((S.set g (.arr 5 1 0 (i + 1) ((bs ++ s).map bAV))).set a (.cells [.own a 0, .sown g (i + 1) (bs.length + s.length)] (some 82)))) :
    ACall Tryz.prog w0 44 [.own a 0, .str s] S R := by
  obtain ⟨ha, hg, had⟩ := hb
  have hal := (List.getElem?_eq_some_iff.1 ha).1
  have hgl := (List.getElem?_eq_some_iff.1 hg).1
  have hne : a ≠ g := by rintro rfl; rw [ha] at hg; cases hg
  obtain ⟨S1, hS1⟩ : ∃ S1, S.set a (.cells [.own a 0, .sown g i bs.length] (some 82)) = S1 := ⟨_, rfl⟩
  have hck : ∀ R : AOut → List Blk → Prop, R (.ret (.tup [])) S1 → ACall Tryz.prog w0 76 [.own a 0] S R := by
    intro R hR
    rcases had with rfl | rfl
    · exact copyCheck0 w0 S a _ ha (by simpa [AV.lt] using hgl) hal R (hS1 ▸ hR)
    · have : S.set a (.cells [.own a 0, .sown g i bs.length] (some 82)) = S := set_self ha
      rw [this] at hS1
      exact copyCheck1 w0 S a _ ha R (hS1 ▸ hR)
  have h1 : S1[a]? = some (.cells [.own a 0, .sown g i bs.length] (some 82)) := by rw [← hS1]; simp [hal]
  have h2 : S1[g]? = some (.arr 5 1 0 i (bs.map bAV)) := by rw [← hS1, List.getElem?_set_ne hne]; exact hg
  have hl1 : S1.length = S.length := by rw [← hS1]; simp
  have hbl : (bs.map bAV).length = bs.length := by simp
  have h3 : ∀ B, (S1.set g B)[a]? = some (.cells [.own a 0, .sown g i bs.length] (some 82)) := by intro B; rw [List.getElem?_set_ne (Ne.symm hne)]; exact h1
  have hfin : ∀ B C, (S1.set g B).set a C = (S.set g B).set a C := by
    intro B C
    rw [← hS1, List.set_comm _ _ hne, List.set_set]
  have Hfin := Lib.hid hfin
  have Hal := Lib.hid (And.intro hal hgl)
  clear hg had hal hgl hne hS1 hfin
  refine enter Tryz.func44 rfl (by decide +kernel) (by rw [Tryz.ntmps44]; simp) (by rw [Tryz.ntmps44]; decide) (fun hO => ?_); rw [Tryz.ntmps44]
  repeat' first | apply x_seq | apply x_skip | apply x_block | apply x_exit | apply x_ret | apply x_ops_nil | apply p_blk | apply p_exit_it | apply p_exit_hit | apply p_ret_it | apply p_ret_blk | apply p_panic_it | apply p_panic_blk | apply p_end | (apply p_exit_miss; (· rfl)) | (apply x_region; simp only [List.toList_toArray]) | (apply x_step0; (· rfl); (· simp only [go_sem, *, List.all_map, Function.comp_def, all_true]; try rfl); (· rfl); simp only [putA]) | (apply ac_ret; simp only [putA]) | apply ac_panic | (apply x_callA []; (· simp only [go_sem, *, List.all_map, Function.comp_def, all_true]; try rfl); (· rfl); (· simp only [go_sem, *, List.all_map, Function.comp_def, all_true]; try rfl); (· rfl); (iterate 2 (· simp only [go_sem, *, List.all_map, Function.comp_def, all_true]; try rfl)); (first | apply hck); simp only [afterCall, putA]) | (apply x_panic; (· simp only [go_sem, *, List.all_map, Function.comp_def, all_true]; try rfl); (· rfl); (· simp only [go_sem, *, List.all_map, Function.comp_def, all_true]; try rfl)) | (apply x_step; (iterate 2 (· simp only [go_sem, *, List.all_map, Function.comp_def, all_true]; try rfl)); (· rfl); simp only [putA]) | (apply x_unwanted; (· simp only [go_sem, *, List.all_map, Function.comp_def, all_true]; try rfl); (· rfl); simp only [putA]) | (apply x_condT; (· simp only [go_sem, *, List.all_map, Function.comp_def, all_true]; try rfl)) | (apply x_condF; (· simp only [go_sem, *, List.all_map, Function.comp_def, all_true]; try rfl)) | (apply x_guardS; (· rfl); (fail_if_success (focus (show _ = some true; (· simp only [go_sem, *, List.all_map, Function.comp_def, all_true]; try rfl)))); (· simp only [go_sem, *, List.all_map, Function.comp_def, all_true]; try rfl); all_goals (intro hb; try simp only [Bool.not_eq_true', Bool.not_eq_false'] at hb)) | (apply x_condS; (· simp only [go_sem, *, List.all_map, Function.comp_def, all_true]; try rfl); all_goals (intro hb; try simp only [Bool.not_eq_true', Bool.not_eq_false'] at hb)) | fail
  (apply f_retX; iterate 5 (· simp only [go_sem, *, Tryz.results44]; try rfl))
  · rw [Hfin.out]
    refine OuterOk.set (OuterOk.set hO ?_) ?_
    · have h4 : ltL S.length (List.map bAV bs ++ List.map bAV s) = true := by rw [← List.map_append]; exact bAV_ltL _ _
      exact h4
    · have := Hal.out; simp [Blk.ltB, ltL, AV.lt, this.1, this.2]
  · simp [hl1]
  · rw [Hfin.out]; rw [List.map_append] at h; exact h
set_option maxHeartbeats 1000000 in
theorem bldString (w0 : World) (S : List Blk) (a g i : Nat) (ad : AV) (bs : List UInt8) (hb : Bld S a g i ad bs) (hpos : 1 ≤ bs.length) (R : AOut → List Blk → Prop)
    (h : R (.ret (.str bs)) (S.set g .dead)) : ACall Tryz.prog w0 46 [.own a 0] S R := by
  obtain ⟨ha, hg, had⟩ := hb
  have hby := bytesOf_map bs
  have hok8 := okBytes_map bs
  have hbl : (bs.map bAV).length = bs.length := by simp
  have hne : a ≠ g := by rintro rfl; rw [ha] at hg; cases hg
  have h3 : ∀ B, (S.set g B)[a]? = some (.cells [ad, .sown g i bs.length] (some 82)) := by intro B; rw [List.getElem?_set_ne (Ne.symm hne)]; exact ha
  clear hne
  clear had
  refine enter Tryz.func46 rfl (by decide +kernel) (by rw [Tryz.ntmps46]; simp) (by rw [Tryz.ntmps46]; decide) (fun hO => ?_); rw [Tryz.ntmps46]
  repeat' first | refine st ?_ | (refine br ?_ ?_; all_goals (intro hb; try simp only [Bool.not_eq_true', Bool.not_eq_false'] at hb)) | refine sd ?_ | apply pl_nil | (apply c_end; (· decide +kernel)) | refine bd ?_ ?_ | fail
  · repeat' first | exact pl_nil | refine pl_none ?_ | refine pl_skip2 (by decide +kernel) ?_ | refine pl_one ((h3 _).trans ha.symm) ?_
  (apply f_retX; iterate 5 (· simp only [go_sem, *, Tryz.results46]; try rfl))
  · exact OuterOk.set hO rfl
  · simp
  · exact h
end Go.Proofs.YtfnnjkbhmoomjaaGreatDoor
namespace Go.Proofs.YtfnnjkbhmoomjaaGreatDoor
open Go Go.Fen
set_option linter.unusedSimpArgs false
set_option linter.unusedVariables false
attribute [local irreducible] RunX WP ACall AnyP OpA ProtL afterCall afterOp
set_option maxRecDepth 8000
def textS (l : List Nat) : List UInt8 := l.flatMap putS
theorem bldEmpty (w0 : World) (S : List Blk) (a : Nat) (ha : S[a]? = some (.cells [.nilp, .snil] (some 82))) (R : AOut → List Blk → Prop) (h : R (.ret (.str [])) S) : ACall Tryz.prog w0 46 [.own a 0] S R := by
  refine enter Tryz.func46 rfl (by decide +kernel) (by rw [Tryz.ntmps46]; simp) (by rw [Tryz.ntmps46]; decide) (fun hO => ?_); rw [Tryz.ntmps46]
  repeat' first | refine st ?_ | (refine br ?_ ?_; all_goals (intro hb; try simp only [Bool.not_eq_true', Bool.not_eq_false'] at hb)) | refine sd ?_ | apply pl_nil | (apply c_end; (· decide +kernel)) | refine bd ?_ ?_ | fail
  all_goals (apply f_ret; iterate 7 (· simp only [go_sem, *, Tryz.results46]; try rfl))
  all_goals exact h
theorem wsT (w0 : World) (X : List Blk) (ad : AV) (i : Nat) (bs s : List UInt8) (had : ad = .nilp ∨ ad = .own X.length 0) (hlen : (bs.length + s.length) * 1 ≤ 140737488355328) (R : AOut → List Blk → Prop)
    (h : R (.ret (.tup [.int .i64 s.length, .inil])) (X ++ [Blk.cells [.own X.length 0, .sown (X.length + 1) (i + 1) (bs ++ s).length] (some 82), .arr 5 1 0 (i + 1) ((bs ++ s).map bAV)])) :
    ACall Tryz.prog w0 44 [.own X.length 0, .str s] (X ++ [Blk.cells [ad, .sown (X.length + 1) i bs.length] (some 82), .arr 5 1 0 i (bs.map bAV)]) R := by
  refine writeString w0 _ X.length (X.length + 1) i ad bs s ⟨by simp, by rw [List.getElem?_append_right (by omega)]; simp, had⟩ hlen R ?_
  have e : ((X ++ [Blk.cells [ad, .sown (X.length + 1) i bs.length] (some 82), .arr 5 1 0 i (bs.map bAV)]).set (X.length + 1) (.arr 5 1 0 (i + 1) ((bs ++ s).map bAV))).set X.length (.cells [.own X.length 0, .sown (X.length + 1) (i + 1) (bs.length + s.length)] (some 82)) =
      X ++ [Blk.cells [.own X.length 0, .sown (X.length + 1) (i + 1) (bs ++ s).length] (some 82), .arr 5 1 0 (i + 1) ((bs ++ s).map bAV)] := by
    rw [List.set_append_right _ _ (by omega), List.set_append_right _ _ (by omega)]
    simp
  rw [e]
  exact h
theorem bsT (w0 : World) (X : List Blk) (ad : AV) (i : Nat) (bs : List UInt8) (had : ad = .nilp ∨ ad = .own X.length 0) (hpos : 1 ≤ bs.length) (R : AOut → List Blk → Prop)
    (h : R (.ret (.str bs)) (X ++ [Blk.cells [ad, .sown (X.length + 1) i bs.length] (some 82), .dead])) :
    ACall Tryz.prog w0 46 [.own X.length 0] (X ++ [Blk.cells [ad, .sown (X.length + 1) i bs.length] (some 82), .arr 5 1 0 i (bs.map bAV)]) R := by
  refine bldString w0 _ X.length (X.length + 1) i ad bs ⟨by simp, by rw [List.getElem?_append_right (by omega)]; simp, had⟩ hpos R ?_
  rw [List.set_append_right _ _ (by omega)]
  simpa using h
theorem putS_len (cp : Nat) : 1 ≤ (putS cp).length ∧ (putS cp).length ≤ 4 := by
  unfold putS putU putN
  repeat' split
  all_goals simp
theorem textS_len (l : List Nat) : l.length ≤ (textS l).length ∧ (textS l).length ≤ 4 * l.length := by
  induction l with
  | nil => simp [textS]
  | cons c l ih =>
    have := putS_len c
    unfold textS at ih ⊢
    rw [List.flatMap_cons, List.length_append, List.length_cons]; omega
theorem textS_succ {l : List Nat} {k c : Nat} (h : l[k]? = some c) : textS (l.take (k + 1)) = textS (l.take k) ++ putS c := by
  unfold textS
  rw [List.take_add_one, h]
  simp
set_option maxHeartbeats 4000000 in
theorem uText (w0 : World) (S : List Blk) (l : List Nat) (hb : ∀ c ∈ l, c < 4294967296) (hl : l.length ≤ 100000000) (R : AOut → List Blk → Prop) (h : R (.ret (.str (textS l))) S) : ACall Tryz.prog w0 79 [.sval false (l.map Co)] S R := by
  by_cases hn : l = []
  · subst hn
    have h : R (.ret (.str [])) S := h
    have e0 : decide ((0 : Int) < ((0 : Nat) : Int)) = false := rfl
    have hbe := fun S' ha => bldEmpty w0 S' S.length ha
    clear hb hl
    refine enter Tryz.func79 rfl (by decide +kernel) (by rw [Tryz.ntmps79]; simp) (by rw [Tryz.ntmps79]; decide) (fun hO => ?_); rw [Tryz.ntmps79]
    repeat' first | refine st ?_ | (refine ca ?_; first | (apply hbe; (· simp only [go_sem, *]; try rfl))) | (refine br ?_ ?_; all_goals (intro hb; try simp only [Bool.not_eq_true', Bool.not_eq_false'] at hb)) | apply x_loop | apply x_lp | fail
    (apply f_ret; iterate 7 (· simp only [go_sem, *, Tryz.results79]; try rfl))
    exact h
  · have hpos : 0 < l.length := by
      cases l with
      | nil => exact absurd rfl hn
      | cons a r => simp
    refine enter Tryz.func79 rfl (by decide +kernel) (by rw [Tryz.ntmps79]; simp) (by rw [Tryz.ntmps79]; decide) (fun hO => ?_); rw [Tryz.ntmps79]
    repeat' first | refine st ?_ | (refine br ?_ ?_; all_goals (intro hb; try simp only [Bool.not_eq_true', Bool.not_eq_false'] at hb)) | fail
    refine x_thawC (a := S.length) (j := 1) 5 1 (by (simp only [go_sem, *]; try rfl)) (by (simp only [go_sem, *]; try rfl)) (by decide) ?_
    simp only [go_sem, *]
    refine x_ind (fun (p : Nat × AV) env S' => p.1 ≤ l.length ∧ (p.2 = .nilp ∨ p.2 = .own S.length 0) ∧ env 1000000 = .dfr [] ∧ env 3 = .own S.length 0 ∧ env 6 = .sval false (l.map Co) ∧ env 7 = .int .i64 l.length ∧ env 8 = .int .i64 (p.1 : Int) ∧
      S' = S ++ [Blk.cells [p.2, .sown (S.length + 1) p.1 (textS (l.take p.1)).length] (some 82), .arr 5 1 0 p.1 ((textS (l.take p.1)).map bAV)]) (fun p => l.length - p.1) (0, .nilp) ?_ ?_
    · exact ⟨Nat.zero_le _, .inl rfl, by (simp only [go_sem, *]; try rfl), by (simp only [go_sem, *]; try rfl), by (simp only [go_sem, *]; try rfl), by (simp only [go_sem, *]; try rfl), by (simp only [go_sem, *]; try rfl), rfl⟩
    · rintro ⟨k, ad⟩ env S' ⟨hk, had, e0, e3, e6, e7, e8, rfl⟩ IH
      have HI := Lib.hid IH
      have H := Lib.hid h
      have Hb := Lib.hid hb
      have Had := Lib.hid had
      have Hpos := Lib.hid hpos
      clear IH h hb had hn hpos
      have ht := textS_len (l.take k)
      have htk : (l.take k).length ≤ k := List.length_take_le _ _
      simp only at hk e8
      by_cases hlt : k < l.length
      · obtain ⟨c, hx⟩ : ∃ c, l[k]? = some c := ⟨_, List.getElem?_eq_getElem hlt⟩
        have h1 : decide ((k : Int) < (l.length : Int)) = true := by simpa using hlt
        have hw : IntKind.i64.wrap ((k : Int) + 1) = (k : Int) + 1 := IntWalk.i64_in _ (by omega)
        have hpl := putS_len c
        have hput := fun S' => uPut w0 S' c (Hb.out c (List.mem_of_getElem? hx))
        have hws := wsT w0 S ad k (textS (l.take k)) (putS c) Had.out (by omega)
        rw [← textS_succ hx] at hws
        have Hlt := Lib.hid hlt
        clear hlt hl hk ht htk hpl
        repeat' first | apply x_seq | apply x_skip | apply x_block | apply x_exit | apply x_ret | apply x_ops_nil | apply p_blk | apply p_exit_it | apply p_exit_hit | apply p_ret_it | apply p_ret_blk | apply p_panic_it | apply p_panic_blk | apply p_end | (apply p_exit_miss; (· rfl)) | (apply x_region; simp only [List.toList_toArray]) | (apply x_step0; (· rfl); (· simp only [go_sem, *, Co]; try rfl); (· rfl); simp only [putA]) | (apply ac_ret; simp only [putA]) | apply ac_panic | (apply x_callA []; (· simp only [go_sem, *, Co]; try rfl); (· rfl); (· simp only [go_sem, *, Co]; try rfl); (· rfl); (iterate 2 (· simp only [go_sem, *, Co]; try rfl)); (first | apply hput | apply hws); simp only [afterCall, putA]) | (apply x_panic; (· simp only [go_sem, *, Co]; try rfl); (· rfl); (· simp only [go_sem, *, Co]; try rfl)) | (apply x_step; (iterate 2 (· simp only [go_sem, *, Co]; try rfl)); (· rfl); simp only [putA]) | (apply x_unwanted; (· simp only [go_sem, *, Co]; try rfl); (· rfl); simp only [putA]) | (apply x_condT; (· simp only [go_sem, *, Co]; try rfl)) | (apply x_condF; (· simp only [go_sem, *, Co]; try rfl)) | (apply x_guardS; (· rfl); (fail_if_success (focus (show _ = some true; (· simp only [go_sem, *, Co]; try rfl)))); (· simp only [go_sem, *, Co]; try rfl); all_goals (intro hb; try simp only [Bool.not_eq_true', Bool.not_eq_false'] at hb)) | (apply x_condS; (· simp only [go_sem, *, Co]; try rfl); all_goals (intro hb; try simp only [Bool.not_eq_true', Bool.not_eq_false'] at hb)) | fail
        refine HI.out (k + 1, .own S.length 0) _ _ (by have := Hlt.out; simp only; omega) ⟨Hlt.out, .inr rfl, ?_, ?_, ?_, ?_, ?_, rfl⟩
        · (simp only [go_sem, *]; try rfl)
        · (simp only [go_sem, *]; try rfl)
        · (simp only [go_sem, *]; try rfl)
        · (simp only [go_sem, *]; try rfl)
        · (simp only [go_sem, *]; try rfl)
      · have hkl : k = l.length := by omega
        have h1 : decide ((k : Int) < (l.length : Int)) = false := by simpa using hlt
        have htl : textS (l.take k) = textS l := by rw [hkl, List.take_length]
        have hp1 : 1 ≤ (textS l).length := by have := textS_len l; have := Hpos.out; omega
        rw [htl]
        have hbs := bsT w0 S ad k (textS l) Had.out hp1
        clear hlt hl hk ht htk htl hkl hp1
        repeat' first | refine st ?_ | (refine ca ?_; first | apply hbs) | (refine br ?_ ?_; all_goals (intro hb; try simp only [Bool.not_eq_true', Bool.not_eq_false'] at hb)) | fail
        (apply f_ret; iterate 7 (· simp only [go_sem, *, Tryz.results79]; try rfl))
        exact H.out
end Go.Proofs.YtfnnjkbhmoomjaaGreatDoor
namespace Go.Proofs.YtfnnjkbhmoomjaaGreatDoor
open Go Go.Fen
set_option linter.unusedSimpArgs false
set_option linter.unusedVariables false
attribute [local irreducible] RunX WP ACall AnyP OpA ProtL afterCall afterOp
set_option maxRecDepth 8000
def stU (s : List Nat) : List Nat × List Nat := s.foldl (fun q b => ((stepU q.1 b).1, q.2 ++ (stepU q.1 b).2)) ([], [])
theorem fold_codes : ∀ (s : List Nat) (q : List Nat × List Nat), (s.foldl (fun q b => ((stepU q.1 b).1, q.2 ++ (stepU q.1 b).2)) q).2 ++ flushU (s.foldl (fun q b => ((stepU q.1 b).1, q.2 ++ (stepU q.1 b).2)) q).1 = q.2 ++ codesF q.1 s
  | [], q => rfl
  | b :: s, q => by
    rw [List.foldl_cons, fold_codes s]
    simp only [codesF, List.append_assoc]
theorem codes_st (s : List Nat) : codesU s = (stU s).2 ++ flushU (stU s).1 := by
  have := fold_codes s ([], [])
  rw [List.nil_append] at this
  exact this.symm
theorem st_succ {s : List Nat} {i b : Nat} (h : s[i]? = some b) : stU (s.take (i + 1)) = ((stepU (stU (s.take i)).1 b).1, (stU (s.take i)).2 ++ (stepU (stU (s.take i)).1 b).2) := by
  unfold stU
  rw [List.take_add_one, h]
  simp only [Option.toList_some, List.foldl_append, List.foldl_cons, List.foldl_nil]
theorem step_bytes {p : List Nat} {b : Nat} (hp : ∀ x ∈ p, x < 256) (hb : b < 256) : ∀ x ∈ (stepU p b).1, x < 256 := by
  have ha : ∀ x ∈ p ++ [b], x < 256 := by
    intro x hx
    rcases List.mem_append.1 hx with hx | hx
    · exact hp x hx
    · rw [List.mem_singleton.1 hx]; exact hb
  unfold stepU
  split
  · simp
  · split
    · exact ha
    · split
      · simp
      · unfold step1
        split
        · simp
        · split
          · intro x hx; rw [List.mem_singleton.1 hx]; exact hb
          · simp
theorem st_ok (s : List Nat) (hs : ∀ b ∈ s, b < 256) : ∀ i, rightU (stU (s.take i)).1 = true ∧ ∀ x ∈ (stU (s.take i)).1, x < 256 := by
  intro i
  induction i with
  | zero => exact ⟨rfl, by simp [stU]⟩
  | succ i ih =>
    cases hx : s[i]? with
    | none =>
      rw [List.getElem?_eq_none_iff] at hx
      rw [List.take_of_length_le (by omega)] at ih ⊢
      exact ih
    | some b =>
      rw [st_succ hx]
      exact ⟨stepU_right _ _, step_bytes ih.2 (hs b (List.mem_of_getElem? hx))⟩
theorem code_lt {p : List Nat} (h : kindU p = 2) : codeU p < 2097152 := by
  match p with
  | [] => decide
  | [a] =>
    obtain ⟨h1, _⟩ := kind2 h
    rcases first_cases a with ⟨h2, hF, hL⟩ | ⟨h2, hF, hL⟩ | ⟨h2, h3, hF, hL⟩ | ⟨h2, h3, hF, hL⟩ | ⟨h2, h3, hF, hL⟩ | ⟨h2, h3, hF, hL⟩ | ⟨h2, h3, hF, hL⟩
    all_goals (rw [hL] at h1; simp at h1)
    simp [codeU]; omega
  | [a, b] => simp [codeU]; omega
  | [a, b, c] => simp [codeU]; omega
  | [a, b, c, d] => simp [codeU]; omega
  | a :: b :: c :: d :: e :: r =>
    obtain ⟨h1, _⟩ := kind2 h
    rcases first_cases a with ⟨h2, hF, hL⟩ | ⟨h2, hF, hL⟩ | ⟨h2, h3, hF, hL⟩ | ⟨h2, h3, hF, hL⟩ | ⟨h2, h3, hF, hL⟩ | ⟨h2, h3, hF, hL⟩ | ⟨h2, h3, hF, hL⟩
    all_goals (rw [hL] at h1; simp at h1)
theorem step1_codes (b : Nat) : (∀ c ∈ (step1 b).2, c < 2097152) ∧ (step1 b).2.length ≤ 1 := by
  unfold step1
  split
  · next h => exact ⟨by intro c hc; rw [List.mem_singleton.1 hc]; exact code_lt h, by simp⟩
  · split <;> simp
theorem step_codes (p : List Nat) (b : Nat) : (∀ c ∈ (stepU p b).2, c < 2097152) ∧ (stepU p b).2.length ≤ 2 := by
  unfold stepU
  split
  · next h => exact ⟨by intro c hc; rw [List.mem_singleton.1 hc]; exact code_lt h, by simp⟩
  · split
    · simp
    · split
      · simp
      · have := step1_codes b
        refine ⟨?_, by simp; omega⟩
        intro c hc
        rcases List.mem_cons.1 hc with rfl | hc
        · decide
        · exact this.1 c hc
theorem codesF_lt : ∀ (s p : List Nat), (∀ c ∈ codesF p s, c < 2097152) ∧ (codesF p s).length ≤ 2 * s.length + 1
  | [], p => by
    unfold codesF flushU
    split <;> simp
  | b :: s, p => by
    have h1 := step_codes p b
    have h2 := codesF_lt s (stepU p b).1
    unfold codesF
    refine ⟨?_, by rw [List.length_append, List.length_cons]; omega⟩
    intro c hc
    rcases List.mem_append.1 hc with hc | hc
    · exact h1.1 c hc
    · exact h2.1 c hc
def codesB (s : List UInt8) : List Nat := codesU (s.map UInt8.toNat)
theorem codesB_lt (s : List UInt8) : (∀ c ∈ codesB s, c < 2097152) ∧ (codesB s).length ≤ 2 * s.length + 1 := by
  have := codesF_lt (s.map UInt8.toNat) []
  rw [List.length_map] at this
  exact this
theorem st_pre (s : List Nat) : ∀ m i, i + m = s.length → ∃ z, (stU s).2 = (stU (s.take i)).2 ++ z
  | 0, i, h => ⟨[], by rw [List.take_of_length_le (by omega), List.append_nil]⟩
  | m + 1, i, h => by
    obtain ⟨z, hz⟩ := st_pre s m (i + 1) (by omega)
    have hx : s[i]? = some s[i] := List.getElem?_eq_getElem (by omega)
    rw [st_succ hx] at hz
    exact ⟨(stepU (stU (s.take i)).1 s[i]).2 ++ z, by rw [hz, List.append_assoc]⟩
theorem code_at {s : List UInt8} {i j c : Nat} {b : UInt8} (hx : s[i]? = some b) (hj : (stepU (stU ((s.map UInt8.toNat).take i)).1 b.toNat).2[j]? = some c) : (codesB s)[(stU ((s.map UInt8.toNat).take i)).2.length + j]? = some c := by
  have hi := (List.getElem?_eq_some_iff.1 hx).1
  obtain ⟨z, hz⟩ := st_pre (s.map UInt8.toNat) (s.length - (i + 1)) (i + 1) (by simp; omega)
  have hx2 : (s.map UInt8.toNat)[i]? = some b.toNat := by rw [List.getElem?_map, hx]; rfl
  rw [st_succ hx2] at hz
  have hjl := (List.getElem?_eq_some_iff.1 hj).1
  unfold codesB
  rw [codes_st, hz]
  simp only [List.append_assoc]
  rw [List.getElem?_append_right (by omega), Nat.add_sub_cancel_left, List.getElem?_append_left hjl]
  exact hj
theorem code_end {s : List UInt8} {j c : Nat} (hj : (flushU (stU (s.map UInt8.toNat)).1)[j]? = some c) : (codesB s)[(stU (s.map UInt8.toNat)).2.length + j]? = some c := by
  unfold codesB
  rw [codes_st, List.getElem?_append_right (by omega), Nat.add_sub_cancel_left]
  exact hj
def eachV (s : List UInt8) : AV := .fn (.func 131) [] [.pro [.str s]]
theorem uEach (w0 : World) (S : List Blk) (s : List UInt8) (R : AOut → List Blk → Prop) (h : R (.ret (eachV s)) S) : ACall Tryz.prog w0 109 [.str s] S R := by
  refine enter Tryz.func109 rfl (by decide +kernel) (by rw [Tryz.ntmps109]; simp) (by rw [Tryz.ntmps109]; decide) (fun hO => ?_); rw [Tryz.ntmps109]
  repeat' first | refine st ?_ | (refine br ?_ ?_; all_goals (intro hb; try simp only [Bool.not_eq_true', Bool.not_eq_false'] at hb)) | fail
  (apply f_ret; iterate 7 (· simp only [go_sem, *, Tryz.results109]; try rfl))
  exact h
set_option maxHeartbeats 4000000 in
theorem uEach1 (w0 : World) (s : List UInt8) (hs : s.length ≤ 100000000) (a n : Nat) (ha : decide (a < n) = true) (I : Nat → List Blk → Prop) (hI : ∀ k S, I k S → S.length = n ∧ OuterOk S)
    (hround : ∀ k S c, I k S → (codesB s)[k]? = some c → ∀ (E : List Blk) (R' : AOut → List Blk → Prop), (∀ S2 E2, I (k + 1) S2 → R' (.ret (.bool true)) (S2 ++ (E ++ E2))) → YA Tryz.prog w0 a [.int .i64 c] (S ++ E) R')
    (S : List Blk) (h0 : I 0 S) (R : AOut → List Blk → Prop) (h : ∀ S', I (codesB s).length S' → R (.ret (.tup [])) S') :
    ACall Tryz.prog w0 131 [.yld a, .pro [.str s]] S R := by
  have hn := (hI _ _ h0).1
  refine enter Tryz.func131 rfl (by decide +kernel) (by rw [Tryz.ntmps131]; simp) (by rw [Tryz.ntmps131]; decide) (fun hO => ?_); rw [Tryz.ntmps131]
  repeat' first | refine st ?_ | (refine br ?_ ?_; all_goals (intro hb; try simp only [Bool.not_eq_true', Bool.not_eq_false'] at hb)) | fail
  have hall : ∀ b ∈ s.map UInt8.toNat, b < 256 := by
    intro b hb
    obtain ⟨x, _, rfl⟩ := List.mem_map.1 hb
    exact x.toNat_lt
  have hst := st_ok (s.map UInt8.toNat) hall
  refine x_ind (fun (p : Nat × AV) env S' => p.1 ≤ s.length ∧ (p.2 = .snil ∧ (stU ((s.map UInt8.toNat).take p.1)).1 = [] ∨ p.2 = .sval false ((stU ((s.map UInt8.toNat).take p.1)).1.map By)) ∧ env 1000000 = .dfr [] ∧ env 0 = .yld a ∧ env 1 = .pro [.str s] ∧ env 3 = p.2 ∧ env 12 = .int .i64 s.length ∧ env 13 = .int .i64 (p.1 : Int) ∧ I (stU ((s.map UInt8.toNat).take p.1)).2.length S') (fun p => s.length - p.1) (0, .snil) ?_ ?_
  · exact ⟨Nat.zero_le _, .inl ⟨rfl, rfl⟩, by (simp only [go_sem, *]; try rfl), by (simp only [go_sem, *]; try rfl), by (simp only [go_sem, *]; try rfl), by (simp only [go_sem, *]; try rfl), by (simp only [go_sem, *]; try rfl), by (simp only [go_sem, *]; try rfl), h0⟩
  · rintro ⟨i, pv⟩ env S' ⟨hi, hpv, e0, ey, e1, e3, e12, e13, hIi⟩ IH
    have HI := Lib.hid IH
    have HIi := Lib.hid hIi
    have Hn := Lib.hid hn
    have Hr := Lib.hid hround
    have HJ := Lib.hid hI
    have H := Lib.hid h
    have Hst := Lib.hid hst
    clear IH hIi hn hround hI h hst hall h0
    simp only at hi e13 e3 hpv
    by_cases hlt : i < s.length
    · obtain ⟨b, hx⟩ : ∃ b, s[i]? = some b := ⟨_, List.getElem?_eq_getElem hlt⟩
      have h1 : decide ((i : Int) < (s.length : Int)) = true := by simpa using hlt
      have hw : IntKind.i64.wrap ((i : Int) + 1) = (i : Int) + 1 := IntWalk.i64_in _ (by omega)
      have hx2 : (s.map UInt8.toNat)[i]? = some b.toNat := by rw [List.getElem?_map, hx]; rfl
      have hsu := st_succ hx2
      have hca := fun j c => code_at (j := j) (c := c) hx
      have hstep := fun S' => uStep w0 S' (stU ((s.map UInt8.toNat).take i)).1 b.toNat b.toNat_lt (Hst.out i).1 (Hst.out i).2
      have hq2 := (step_codes (stU ((s.map UInt8.toNat).take i)).1 b.toNat).2
      obtain ⟨q, hq⟩ : ∃ q, stepU (stU ((s.map UInt8.toNat).take i)).1 b.toNat = q := ⟨_, rfl⟩
      obtain ⟨D, hD⟩ : ∃ D, (stU ((s.map UInt8.toNat).take i)).2 = D := ⟨_, rfl⟩
      obtain ⟨X, hX⟩ : ∃ X, (stU ((s.map UInt8.toNat).take i)).1 = X := ⟨_, rfl⟩
      rw [hq, hX] at hstep
      rw [hq] at hca hsu hq2
      rw [hD] at hca hsu
      rw [hX] at hpv
      obtain ⟨q1, q2⟩ := q
      unfold stepV at hstep
      simp only at hstep hca hsu hq2
      have HIi2 := Lib.hid (show I D.length S' from hD ▸ HIi.out)
      have Hca := Lib.hid hca
      have Hsu := Lib.hid hsu
      have Hlt := Lib.hid hlt
      clear HIi Hst hca hsu hX hD hq hx2 hlt hi
      have Hstep := Lib.hid hstep
      clear hstep
      rcases hpv with ⟨rfl, hX0⟩ | rfl
      all_goals
        try subst hX0
        repeat' first | refine st ?_ | (refine ca ?_; first | apply Hstep.out) | (refine br ?_ ?_; all_goals (intro hb; try simp only [Bool.not_eq_true', Bool.not_eq_false'] at hb)) | fail
        refine x_ind (fun (j : Nat) env' S2 => j ≤ q2.length ∧ env' 1000000 = .dfr [] ∧ env' 0 = .yld a ∧ env' 1 = .pro [.str s] ∧ env' 3 = .sval false (q1.map By) ∧ env' 12 = .int .i64 s.length ∧ env' 13 = .int .i64 (i : Int) ∧ env' 25 = .sval false (q2.map Co) ∧ env' 26 = .int .i64 q2.length ∧ env' 27 = .int .i64 (j : Int) ∧ I (D.length + j) S2) (fun j => q2.length - j) 0 ?_ ?_
        · exact ⟨Nat.zero_le _, by (simp only [go_sem, *]; try rfl), by (simp only [go_sem, *]; try rfl), by (simp only [go_sem, *]; try rfl), by (simp only [go_sem, *]; try rfl), by (simp only [go_sem, *]; try rfl), by (simp only [go_sem, *]; try rfl), by (simp only [go_sem, *]; try rfl), by (simp only [go_sem, *]; try rfl), by (simp only [go_sem, *]; try rfl), HIi2.out⟩
        · clear e0 ey e1 e3 e12 e13
          rintro j env2 S2 ⟨hj, f0, fy, f1, f3, f12, f13, f25, f26, f27, hIj⟩ JH
          have HH := Lib.hid JH
          have HIj := Lib.hid hIj
          clear JH hIj
          by_cases hjl : j < q2.length
          · obtain ⟨c, hc⟩ : ∃ c, q2[j]? = some c := ⟨_, List.getElem?_eq_getElem hjl⟩
            have j1 : decide ((j : Int) < (q2.length : Int)) = true := by simpa using hjl
            have hwj : IntKind.i64.wrap ((j : Int) + 1) = (j : Int) + 1 := IntWalk.i64_in _ (by omega)
            have Hjl := Lib.hid hjl
            clear hjl hj hq2
            repeat' first | apply x_seq | apply x_skip | apply x_block | apply x_exit | apply x_ret | apply x_ops_nil | apply p_blk | apply p_exit_it | apply p_exit_hit | apply p_ret_it | apply p_ret_blk | apply p_panic_it | apply p_panic_blk | apply p_end | (apply p_exit_miss; (· rfl)) | (apply x_region; simp only [List.toList_toArray]) | (apply x_step0; (· rfl); (· simp only [go_sem, *, Co]; try rfl); (· rfl); simp only [putA]) | (apply ac_ret; simp only [putA]) | apply ac_panic | (apply x_panic; (· simp only [go_sem, *, Co]; try rfl); (· rfl); (· simp only [go_sem, *, Co]; try rfl)) | (apply x_step; (iterate 2 (· simp only [go_sem, *, Co]; try rfl)); (· rfl); simp only [putA]) | (apply x_unwanted; (· simp only [go_sem, *, Co]; try rfl); (· rfl); simp only [putA]) | (apply x_condT; (· simp only [go_sem, *, Co]; try rfl)) | (apply x_condF; (· simp only [go_sem, *, Co]; try rfl)) | (apply x_guardS; (· rfl); (fail_if_success (focus (show _ = some true; (· simp only [go_sem, *, Co]; try rfl)))); (· simp only [go_sem, *, Co]; try rfl); all_goals (intro hb; try simp only [Bool.not_eq_true', Bool.not_eq_false'] at hb)) | (apply x_condS; (· simp only [go_sem, *, Co]; try rfl); all_goals (intro hb; try simp only [Bool.not_eq_true', Bool.not_eq_false'] at hb)) | fail
            apply x_yield
            · (simp only [go_sem, *]; try rfl)
            · rfl
            · (simp only [go_sem, *]; try rfl)
            · rfl
            · (simp only [go_sem, *]; try rfl)
            have hy := Hr.out (D.length + j) S2 c HIj.out (Hca.out j c hc) []
            simp only [List.append_nil, List.nil_append] at hy
            refine hy _ ?_
            intro S3 E3 hI3
            have hO3 := HJ.out _ _ hI3
            simp only [afterCall, putA]
            repeat' first | refine st ?_ | (refine br ?_ ?_; all_goals (intro hb; try simp only [Bool.not_eq_true', Bool.not_eq_false'] at hb)) | fail
            refine x_keepO hO3.2 0 [0, 1, 3, 12, 13, 25, 26, 27] (Hn.out.trans hO3.1.symm) (by (simp only [go_sem, *]; try rfl)) (by (simp only [go_sem, *]; try rfl)) (by (simp only [go_sem, *]; try rfl)) ?_
            refine HH.out (j + 1) _ _ (by have := Hjl.out; omega) ⟨Hjl.out, ?_, ?_, ?_, ?_, ?_, ?_, ?_, ?_, ?_, ?_⟩
            · (simp only [go_sem, *]; try rfl)
            · (simp only [go_sem, *]; try rfl)
            · (simp only [go_sem, *]; try rfl)
            · (simp only [go_sem, *]; try rfl)
            · (simp only [go_sem, *]; try rfl)
            · (simp only [go_sem, *]; try rfl)
            · (simp only [go_sem, *]; try rfl)
            · (simp only [go_sem, *]; try rfl)
            · (simp only [go_sem, *]; try rfl)
            · rw [show D.length + (j + 1) = D.length + j + 1 from rfl]
              simpa only [List.take_zero, List.append_nil] using hI3
          · have j1 : decide ((j : Int) < (q2.length : Int)) = false := by simpa using hjl
            have hje : j = q2.length := by omega
            have Hje := Lib.hid hje
            clear hjl hj hje hq2
            repeat' first | refine st ?_ | (refine br ?_ ?_; all_goals (intro hb; try simp only [Bool.not_eq_true', Bool.not_eq_false'] at hb)) | fail
            refine HI.out (i + 1, .sval false (q1.map By)) _ _ (by have := Hlt.out; simp only; omega) ⟨Hlt.out, .inr (by simp only; rw [Hsu.out]), ?_, ?_, ?_, ?_, ?_, ?_, ?_⟩
            · (simp only [go_sem, *]; try rfl)
            · (simp only [go_sem, *]; try rfl)
            · (simp only [go_sem, *]; try rfl)
            · (simp only [go_sem, *]; try rfl)
            · (simp only [go_sem, *]; try rfl)
            · (simp only [go_sem, *]; try rfl)
            · simp only
              rw [Hsu.out, List.length_append, ← Hje.out]
              exact HIj.out
    · have h1 : decide ((i : Int) < (s.length : Int)) = false := by simpa using hlt
      have hie : i = s.length := by omega
      have htk : (s.map UInt8.toNat).take i = s.map UInt8.toNat := List.take_of_length_le (by simp; omega)
      have hst1 := (Hst.out i).1
      have hIi3 := HIi.out
      rw [htk] at hpv hst1 hIi3
      have hfl := fun S' => uFlush w0 S' (stU (s.map UInt8.toNat)).1 hst1
      have hce := fun j c => code_end (s := s) (j := j) (c := c)
      have hcl : (codesB s).length = (stU (s.map UInt8.toNat)).2.length + (flushU (stU (s.map UInt8.toNat)).1).length := by
        unfold codesB
        rw [codes_st, List.length_append]
      obtain ⟨D, hD⟩ : ∃ D, (stU (s.map UInt8.toNat)).2 = D := ⟨_, rfl⟩
      obtain ⟨X, hX⟩ : ∃ X, (stU (s.map UInt8.toNat)).1 = X := ⟨_, rfl⟩
      obtain ⟨q2, hq2⟩ : ∃ q2, flushU (stU (s.map UInt8.toNat)).1 = q2 := ⟨_, rfl⟩
      have hq2l : q2.length ≤ 1 := by rw [← hq2]; unfold flushU; split <;> simp
      rw [hq2, hX] at hfl
      rw [hX] at hpv
      rw [hD, hq2] at hce hcl
      rw [hD] at hIi3
      have HIi2 := Lib.hid hIi3
      have Hce := Lib.hid hce
      have Hcl := Lib.hid hcl
      have Hfl := Lib.hid hfl
      clear hIi3 HIi hce hcl hfl hst1 hD hX hq2 htk hie hlt hi Hst HI
      rcases hpv with ⟨rfl, hX0⟩ | rfl
      all_goals
        try subst hX0
        repeat' first | refine st ?_ | (refine ca ?_; first | apply Hfl.out) | (refine br ?_ ?_; all_goals (intro hb; try simp only [Bool.not_eq_true', Bool.not_eq_false'] at hb)) | fail
        refine x_ind (fun (j : Nat) env' S2 => j ≤ q2.length ∧ env' 1000000 = .dfr [] ∧ env' 0 = .yld a ∧ env' 38 = .sval false (q2.map Co) ∧ env' 39 = .int .i64 q2.length ∧ env' 40 = .int .i64 (j : Int) ∧ I (D.length + j) S2) (fun j => q2.length - j) 0 ?_ ?_
        · exact ⟨Nat.zero_le _, by (simp only [go_sem, *]; try rfl), by (simp only [go_sem, *]; try rfl), by (simp only [go_sem, *]; try rfl), by (simp only [go_sem, *]; try rfl), by (simp only [go_sem, *]; try rfl), HIi2.out⟩
        · clear e0 ey e1 e3 e12 e13
          rintro j env2 S2 ⟨hj, f0, fy, f25, f26, f27, hIj⟩ JH
          have HH := Lib.hid JH
          have HIj := Lib.hid hIj
          clear JH hIj
          by_cases hjl : j < q2.length
          · obtain ⟨c, hc⟩ : ∃ c, q2[j]? = some c := ⟨_, List.getElem?_eq_getElem hjl⟩
            have j1 : decide ((j : Int) < (q2.length : Int)) = true := by simpa using hjl
            have hwj : IntKind.i64.wrap ((j : Int) + 1) = (j : Int) + 1 := IntWalk.i64_in _ (by omega)
            have Hjl := Lib.hid hjl
            clear hjl hj hq2l
            repeat' first | apply x_seq | apply x_skip | apply x_block | apply x_exit | apply x_ret | apply x_ops_nil | apply p_blk | apply p_exit_it | apply p_exit_hit | apply p_ret_it | apply p_ret_blk | apply p_panic_it | apply p_panic_blk | apply p_end | (apply p_exit_miss; (· rfl)) | (apply x_region; simp only [List.toList_toArray]) | (apply x_step0; (· rfl); (· simp only [go_sem, *, Co]; try rfl); (· rfl); simp only [putA]) | (apply ac_ret; simp only [putA]) | apply ac_panic | (apply x_panic; (· simp only [go_sem, *, Co]; try rfl); (· rfl); (· simp only [go_sem, *, Co]; try rfl)) | (apply x_step; (iterate 2 (· simp only [go_sem, *, Co]; try rfl)); (· rfl); simp only [putA]) | (apply x_unwanted; (· simp only [go_sem, *, Co]; try rfl); (· rfl); simp only [putA]) | (apply x_condT; (· simp only [go_sem, *, Co]; try rfl)) | (apply x_condF; (· simp only [go_sem, *, Co]; try rfl)) | (apply x_guardS; (· rfl); (fail_if_success (focus (show _ = some true; (· simp only [go_sem, *, Co]; try rfl)))); (· simp only [go_sem, *, Co]; try rfl); all_goals (intro hb; try simp only [Bool.not_eq_true', Bool.not_eq_false'] at hb)) | (apply x_condS; (· simp only [go_sem, *, Co]; try rfl); all_goals (intro hb; try simp only [Bool.not_eq_true', Bool.not_eq_false'] at hb)) | fail
            apply x_yield
            · (simp only [go_sem, *]; try rfl)
            · rfl
            · (simp only [go_sem, *]; try rfl)
            · rfl
            · (simp only [go_sem, *]; try rfl)
            have hy := Hr.out (D.length + j) S2 c HIj.out (Hce.out j c hc) []
            simp only [List.append_nil, List.nil_append] at hy
            refine hy _ ?_
            intro S3 E3 hI3
            have hO3 := HJ.out _ _ hI3
            simp only [afterCall, putA]
            repeat' first | refine st ?_ | (refine br ?_ ?_; all_goals (intro hb; try simp only [Bool.not_eq_true', Bool.not_eq_false'] at hb)) | fail
            refine x_keepO hO3.2 0 [0, 38, 39, 40] (Hn.out.trans hO3.1.symm) (by (simp only [go_sem, *]; try rfl)) (by (simp only [go_sem, *]; try rfl)) (by (simp only [go_sem, *]; try rfl)) ?_
            refine HH.out (j + 1) _ _ (by have := Hjl.out; omega) ⟨Hjl.out, ?_, ?_, ?_, ?_, ?_, ?_⟩
            · (simp only [go_sem, *]; try rfl)
            · (simp only [go_sem, *]; try rfl)
            · (simp only [go_sem, *]; try rfl)
            · (simp only [go_sem, *]; try rfl)
            · (simp only [go_sem, *]; try rfl)
            · rw [show D.length + (j + 1) = D.length + j + 1 from rfl]
              simpa only [List.take_zero, List.append_nil] using hI3
          · have j1 : decide ((j : Int) < (q2.length : Int)) = false := by simpa using hjl
            have hje : j = q2.length := by omega
            have Hje := Lib.hid hje
            clear hjl hj hje hq2l
            repeat' first | refine st ?_ | (refine br ?_ ?_; all_goals (intro hb; try simp only [Bool.not_eq_true', Bool.not_eq_false'] at hb)) | fail
            have hO2 := HJ.out _ _ HIj.out
            apply f_endO (S2 := S2) (L := [])
            · (simp only [go_sem, *]; try rfl)
            · (simp only [go_sem, *]; try rfl)
            · exact hO2.1.trans Hn.out.symm
            · exact hO2.2
            · (simp only [go_sem, *, Tryz.results131]; try rfl)
            · (simp only [go_sem, *]; try rfl)
            · (simp only [go_sem, *]; try rfl)
            · refine H.out _ ?_
              rw [Hcl.out, ← Hje.out]
              exact HIj.out
end Go.Proofs.YtfnnjkbhmoomjaaGreatDoor
namespace Go.Proofs.YtfnnjkbhmoomjaaGreatDoor
open Go Go.Fen
set_option linter.unusedSimpArgs false
set_option linter.unusedVariables false
attribute [local irreducible] RunX WP ACall AnyP OpA ProtL afterCall afterOp
set_option maxRecDepth 8000
set_option maxHeartbeats 4000000 in
theorem uCodes (w0 : World) (S : List Blk) (s : List UInt8) (hs : s.length ≤ 100000000) (R : AOut → List Blk → Prop) (h : R (.ret (.sval false ((codesB s).map Co))) S) : ACall Tryz.prog w0 78 [.str s] S R := by
  have hlen := (codesB_lt s).2
  refine enter Tryz.func78 rfl (by decide +kernel) (by rw [Tryz.ntmps78]; simp) (by rw [Tryz.ntmps78]; decide) (fun hO => ?_); rw [Tryz.ntmps78]
  repeat' first | refine st ?_ | (refine ca ?_; first | apply uEach) | (refine br ?_ ?_; all_goals (intro hb; try simp only [Bool.not_eq_true', Bool.not_eq_false'] at hb)) | fail
  refine x_thawC (a := S.length) (j := 0) 3 1 (by (simp only [go_sem, *]; try rfl)) (by (simp only [go_sem, *]; try rfl)) (by decide) ?_
  simp only [go_sem, *]
  apply x_rangeL [2]
  · (simp only [go_sem, *, eachV]; try rfl)
  · (simp only [go_sem, *]; try rfl)
  · rfl
  · (simp only [go_sem, *]; try rfl)
  · (simp only [go_sem, *]; try rfl)
  intro LB hLB
  have hLB2 : ∀ m, LB.ltB (S.length + (1 + m)) = true := by intro m; rw [hLB]; (simp only [go_sem, *]; try rfl); simp; omega
  have HLB := Lib.hid hLB
  clear hLB
  refine uEach1 w0 s hs (S.length + 3) (S.length + 4) (by simp) (fun k S' => S' = S ++ [Blk.cells [AV.sown (S.length + 1) k k], Blk.arr 3 1 0 k (((codesB s).take k).map Co), Blk.obj (Obj.deferred (some [])), LB]) ?_ ?_ _ ?_ _ ?_
  · rintro k _ rfl
    have h7 := hLB2 3
    clear h
    refine ⟨by simp, OuterOk.app hO ?_⟩
    (simp only [go_sem, *]; try rfl)
  · rintro k _ c rfl hx E R' hR1
    have hkl : k < (codesB s).length := (List.getElem?_eq_some_iff.1 hx).1
    have hlk : ((codesB s).take k).length = k := by simp; omega
    have hb : (k + 1) * 8 ≤ 140737488355328 := by omega
    have htk : (codesB s).take (k + 1) = (codesB s).take k ++ [c] := by rw [List.take_add_one, hx]; rfl
    clear h hkl hlen
    apply ya_intro HLB.out
    · (simp only [go_sem, *]; try rfl)
    · rfl
    · decide
    · rfl
    · rfl
    · (simp only [go_sem, *]; try rfl)
    intro rb BB hBB
    have HBB := Lib.hid hBB
    clear hBB
    repeat' first | apply x_seq | apply x_skip | apply x_block | apply x_exit | apply x_ret | apply x_ops_nil | apply p_blk | apply p_exit_it | apply p_exit_hit | apply p_ret_it | apply p_ret_blk | apply p_panic_it | apply p_panic_blk | apply p_end | (apply p_exit_miss; (· rfl)) | (apply x_region; simp only [List.toList_toArray]) | (apply x_step0; (· rfl); (· simp only [go_sem, *, Co]; try rfl); (· rfl); simp only [putA]) | (apply ac_ret; simp only [putA]) | apply ac_panic | (apply x_panic; (· simp only [go_sem, *, Co]; try rfl); (· rfl); (· simp only [go_sem, *, Co]; try rfl)) | (apply x_step; (iterate 2 (· simp only [go_sem, *, Co]; try rfl)); (· rfl); simp only [putA]) | (apply x_unwanted; (· simp only [go_sem, *, Co]; try rfl); (· rfl); simp only [putA]) | (apply x_condT; (· simp only [go_sem, *, Co]; try rfl)) | (apply x_condF; (· simp only [go_sem, *, Co]; try rfl)) | (apply x_guardS; (· rfl); (fail_if_success (focus (show _ = some true; (· simp only [go_sem, *, Co]; try rfl)))); (· simp only [go_sem, *, Co]; try rfl); all_goals (intro hb; try simp only [Bool.not_eq_true', Bool.not_eq_false'] at hb)) | (apply x_condS; (· simp only [go_sem, *, Co]; try rfl); all_goals (intro hb; try simp only [Bool.not_eq_true', Bool.not_eq_false'] at hb)) | fail
    apply yb_intro
    · (simp only [go_sem, *]; try rfl)
    · (simp only [go_sem, *]; try rfl)
    have okC := Co.ok ((codesB s).take k)
    simp only [okEls, AV.cells] at okC
    repeat' first | apply x_seq | apply x_skip | apply x_block | apply x_exit | apply x_ret | apply x_ops_nil | apply p_blk | apply p_exit_it | apply p_exit_hit | apply p_ret_it | apply p_ret_blk | apply p_panic_it | apply p_panic_blk | apply p_end | (apply p_exit_miss; (· rfl)) | (apply x_region; simp only [List.toList_toArray]) | (apply x_step0; (· rfl); (· simp only [go_sem, *, List.length_map]; try rfl); (· rfl); simp only [putA]) | (apply ac_ret; simp only [putA]) | apply ac_panic | (apply x_panic; (· simp only [go_sem, *, List.length_map]; try rfl); (· rfl); (· simp only [go_sem, *, List.length_map]; try rfl)) | (apply x_step; (iterate 2 (· simp only [go_sem, *, List.length_map]; try rfl)); (· rfl); simp only [putA]) | (apply x_unwanted; (· simp only [go_sem, *, List.length_map]; try rfl); (· rfl); simp only [putA]) | (apply x_condT; (· simp only [go_sem, *, List.length_map]; try rfl)) | (apply x_condF; (· simp only [go_sem, *, List.length_map]; try rfl)) | (apply x_guardS; (· rfl); (fail_if_success (focus (show _ = some true; (· simp only [go_sem, *, List.length_map]; try rfl)))); (· simp only [go_sem, *, List.length_map]; try rfl); all_goals (intro hb; try simp only [Bool.not_eq_true', Bool.not_eq_false'] at hb)) | (apply x_condS; (· simp only [go_sem, *, List.length_map]; try rfl); all_goals (intro hb; try simp only [Bool.not_eq_true', Bool.not_eq_false'] at hb)) | fail
    apply rp_n HLB.out HBB.out
    · (simp only [go_sem, *]; try rfl)
    · (simp only [go_sem, *]; try rfl)
    have key := hR1 _ [Blk.arr 3 1 0 0 [Co c]] rfl
    rw [htk, List.map_append] at key
    simpa only [app_assoc, List.cons_append, List.nil_append, Co, List.map_cons, List.map_nil] using key
  · simp [app_assoc]
  · rintro _ rfl
    have htl : (codesB s).take (codesB s).length = codesB s := List.take_length
    rw [htl]
    clear hs hlen
    apply ar_none HLB.out rfl
    · (simp only [go_sem, *]; try rfl)
    · (simp only [go_sem, *]; try rfl)
    repeat' first | refine st ?_ | (refine br ?_ ?_; all_goals (intro hb; try simp only [Bool.not_eq_true', Bool.not_eq_false'] at hb)) | fail
    (apply f_ret; iterate 7 (· simp only [go_sem, *, Tryz.results78]; try rfl))
    exact h
end Go.Proofs.YtfnnjkbhmoomjaaGreatDoor
namespace Go.Proofs.YtfnnjkbhmoomjaaGreatDoor
open Go Go.Fen
set_option linter.unusedSimpArgs false
set_option linter.unusedVariables false
attribute [local irreducible] RunX WP ACall AnyP OpA ProtL afterCall afterOp
set_option maxRecDepth 8000
theorem firstR_le (b : Nat) (hb : b < 256) : (firstR b).1 ≤ 4 ∧ (firstR b).2 < 256 := by
  unfold firstR
  repeat' split
  all_goals (refine ⟨by simp, ?_⟩; simp only; omega)
set_option maxHeartbeats 1000000 in
theorem rFirst (w0 : World) (S : List Blk) (b : Nat) (hb256 : b < 256) (R : AOut → List Blk → Prop) (h : R (.ret (.tup [.int .i64 ((firstR b).1 : Nat), .int .i64 ((firstR b).2 : Nat)])) S) : ACall Tryz.prog w0 141 [.int .u8 b] S R := by
  have hw : IntKind.i64.wrap (b : Int) = b := IntWalk.i64_in _ (by omega)
  have w1 : IntKind.i64.wrap ((b : Int) - 192) = (b : Int) - 192 := IntWalk.i64_in _ (by omega)
  have w2 : IntKind.i64.wrap ((b : Int) - 224) = (b : Int) - 224 := IntWalk.i64_in _ (by omega)
  have w3 : IntKind.i64.wrap ((b : Int) - 240) = (b : Int) - 240 := IntWalk.i64_in _ (by omega)
  by_cases c1 : b < 128
  · have d1 : decide ((b : Int) < 128) = true := by simp; omega
    have e : firstR b = (1, b) := by unfold firstR; rw [if_pos c1]
    rw [e] at h
    clear e c1 w1 w2 w3 hb256
    refine enter Tryz.func141 rfl (by decide +kernel) (by rw [Tryz.ntmps141]; simp) (by rw [Tryz.ntmps141]; decide) (fun hO => ?_); rw [Tryz.ntmps141]
    repeat' first | refine st ?_ | (refine br ?_ ?_; all_goals (intro hb; try simp only [Bool.not_eq_true', Bool.not_eq_false'] at hb)) | fail
    (apply f_ret; iterate 7 (· simp only [go_sem, *, Tryz.results141]; try rfl))
    exact h
  have d1 : decide ((b : Int) < 128) = false := by simp; omega
  by_cases c2 : b < 192
  · have e : firstR b = (0, 0) := by unfold firstR; rw [if_neg c1, if_pos c2]
    have d2 : decide ((192 : Int) ≤ (b : Int)) = false := by simp; omega
    have d3 : decide ((224 : Int) ≤ (b : Int)) = false := by simp; omega
    have d4 : decide ((240 : Int) ≤ (b : Int)) = false := by simp; omega
    rw [e] at h
    clear e c1 c2 w1 w2 w3 hb256
    refine enter Tryz.func141 rfl (by decide +kernel) (by rw [Tryz.ntmps141]; simp) (by rw [Tryz.ntmps141]; decide) (fun hO => ?_); rw [Tryz.ntmps141]
    repeat' first | refine st ?_ | (refine br ?_ ?_; all_goals (intro hb; try simp only [Bool.not_eq_true', Bool.not_eq_false'] at hb)) | fail
    (apply f_ret; iterate 7 (· simp only [go_sem, *, Tryz.results141]; try rfl))
    exact h
  have d2 : decide ((192 : Int) ≤ (b : Int)) = true := by simp; omega
  by_cases c3 : b < 224
  · have e : firstR b = (2, b - 192) := by unfold firstR; rw [if_neg c1, if_neg c2, if_pos c3]
    have d3 : decide ((b : Int) < 224) = true := by simp; omega
    rw [e] at h
    have h : R (.ret (.tup [.int .i64 2, .int .i64 ((b : Int) - 192)])) S := by
      have e2 : ((b - 192 : Nat) : Int) = (b : Int) - 192 := by omega
      rw [← e2]; exact h
    clear e c1 c2 c3 w2 w3 hb256
    refine enter Tryz.func141 rfl (by decide +kernel) (by rw [Tryz.ntmps141]; simp) (by rw [Tryz.ntmps141]; decide) (fun hO => ?_); rw [Tryz.ntmps141]
    repeat' first | refine st ?_ | (refine br ?_ ?_; all_goals (intro hb; try simp only [Bool.not_eq_true', Bool.not_eq_false'] at hb)) | fail
    (apply f_ret; iterate 7 (· simp only [go_sem, *, Tryz.results141]; try rfl))
    exact h
  have d3 : decide ((b : Int) < 224) = false := by simp; omega
  have d3' : decide ((224 : Int) ≤ (b : Int)) = true := by simp; omega
  by_cases c4 : b < 240
  · have e : firstR b = (3, b - 224) := by unfold firstR; rw [if_neg c1, if_neg c2, if_neg c3, if_pos c4]
    have d4 : decide ((b : Int) < 240) = true := by simp; omega
    rw [e] at h
    have h : R (.ret (.tup [.int .i64 3, .int .i64 ((b : Int) - 224)])) S := by
      have e2 : ((b - 224 : Nat) : Int) = (b : Int) - 224 := by omega
      rw [← e2]; exact h
    clear e c1 c2 c3 c4 w1 w3 hb256
    refine enter Tryz.func141 rfl (by decide +kernel) (by rw [Tryz.ntmps141]; simp) (by rw [Tryz.ntmps141]; decide) (fun hO => ?_); rw [Tryz.ntmps141]
    repeat' first | refine st ?_ | (refine br ?_ ?_; all_goals (intro hb; try simp only [Bool.not_eq_true', Bool.not_eq_false'] at hb)) | fail
    (apply f_ret; iterate 7 (· simp only [go_sem, *, Tryz.results141]; try rfl))
    exact h
  have d4 : decide ((b : Int) < 240) = false := by simp; omega
  have d4' : decide ((240 : Int) ≤ (b : Int)) = true := by simp; omega
  by_cases c5 : b < 248
  · have e : firstR b = (4, b - 240) := by unfold firstR; rw [if_neg c1, if_neg c2, if_neg c3, if_neg c4, if_pos c5]
    have d5 : decide ((b : Int) < 248) = true := by simp; omega
    rw [e] at h
    have h : R (.ret (.tup [.int .i64 4, .int .i64 ((b : Int) - 240)])) S := by
      have e2 : ((b - 240 : Nat) : Int) = (b : Int) - 240 := by omega
      rw [← e2]; exact h
    clear e c1 c2 c3 c4 c5 w1 w2 hb256
    refine enter Tryz.func141 rfl (by decide +kernel) (by rw [Tryz.ntmps141]; simp) (by rw [Tryz.ntmps141]; decide) (fun hO => ?_); rw [Tryz.ntmps141]
    repeat' first | refine st ?_ | (refine br ?_ ?_; all_goals (intro hb; try simp only [Bool.not_eq_true', Bool.not_eq_false'] at hb)) | fail
    (apply f_ret; iterate 7 (· simp only [go_sem, *, Tryz.results141]; try rfl))
    exact h
  · have e : firstR b = (0, 0) := by unfold firstR; rw [if_neg c1, if_neg c2, if_neg c3, if_neg c4, if_neg c5]
    have d5 : decide ((b : Int) < 248) = false := by simp; omega
    rw [e] at h
    clear e c1 c2 c3 c4 c5 w1 w2 w3 hb256
    refine enter Tryz.func141 rfl (by decide +kernel) (by rw [Tryz.ntmps141]; simp) (by rw [Tryz.ntmps141]; decide) (fun hO => ?_); rw [Tryz.ntmps141]
    repeat' first | refine st ?_ | (refine br ?_ ?_; all_goals (intro hb; try simp only [Bool.not_eq_true', Bool.not_eq_false'] at hb)) | fail
    (apply f_ret; iterate 7 (· simp only [go_sem, *, Tryz.results141]; try rfl))
    exact h
def spanV (q : Nat × Nat × Nat) : AV := .tup [.int .i64 q.1, .int .i64 q.2.1, .int .i64 q.2.2]
set_option maxHeartbeats 4000000 in
theorem rSpan (w0 : World) (S : List Blk) (p : List Nat) (hp : ∀ x ∈ p, x < 256) (h4 : p.length ≤ 4) (R : AOut → List Blk → Prop) (h : R (.ret (spanV (spanR p))) S) : ACall Tryz.prog w0 117 [.sval false (p.map By)] S R := by
  match p, hp, h4 with
  | [], _, _ =>
    have h : R (.ret (.tup [.int .i64 0, .int .i64 0, .int .i64 0])) S := h
    simp only [List.map_nil]
    have e0 : (((0 : Nat) : Int) == 0) = true := rfl
    refine enter Tryz.func117 rfl (by decide +kernel) (by rw [Tryz.ntmps117]; simp) (by rw [Tryz.ntmps117]; decide) (fun hO => ?_); rw [Tryz.ntmps117]
    repeat' first | refine st ?_ | (refine br ?_ ?_; all_goals (intro hb; try simp only [Bool.not_eq_true', Bool.not_eq_false'] at hb)) | fail
    (apply f_ret; iterate 7 (· simp only [go_sem, *, Tryz.results117]; try rfl))
    exact h
  | a :: r, hp, h4 =>
    have hf := fun S' => rFirst w0 S' a (hp a (List.mem_cons_self ..))
    have hfl := firstR_le a (hp a (List.mem_cons_self ..))
    have hspan : spanR (a :: r) = match spanL ((firstR a).1 - 1) r (firstR a).2 (firstR a).2 with
      | none => (0, 0, 0)
      | some (lo, hi) => if (firstR a).1 < r.length + 1 then (0, 0, 0) else (lo, hi, (firstR a).1) := rfl
    generalize firstR a = q at hf hfl hspan
    obtain ⟨n, f⟩ := q
    simp only at hf hfl hspan
    obtain ⟨hn4, hf256⟩ := hfl
    have hl0 : (((a :: r).length : Int) == 0) = false := by
      rw [beq_eq_false_iff_ne, List.length_cons]; omega
    have hlen : (a :: r).length = r.length + 1 := rfl
    have hg0 : (a :: r)[0]? = some a := rfl
    have hgs : ∀ i, (a :: r)[i + 1]? = r[i]? := fun i => List.getElem?_cons_succ
    obtain ⟨P, hP⟩ : ∃ P, a :: r = P := ⟨_, rfl⟩
    rw [hP] at hl0 hlen hg0 hgs hspan h hp ⊢
    have hrl : r.length ≤ 3 := by simp at h4; omega
    clear hP h4
    have Hspan := Lib.hid hspan
    have Hp := Lib.hid hp
    have Hgs := Lib.hid hgs
    have Hlen := Lib.hid hlen
    clear hspan hp hgs hlen
    refine enter Tryz.func117 rfl (by decide +kernel) (by rw [Tryz.ntmps117]; simp) (by rw [Tryz.ntmps117]; decide) (fun hO => ?_); rw [Tryz.ntmps117]
    repeat' first | apply x_seq | apply x_skip | apply x_block | apply x_exit | apply x_ret | apply x_ops_nil | apply p_blk | apply p_exit_it | apply p_exit_hit | apply p_ret_it | apply p_ret_blk | apply p_panic_it | apply p_panic_blk | apply p_end | (apply p_exit_miss; (· rfl)) | (apply x_region; simp only [List.toList_toArray]) | (apply x_step0; (· rfl); (· simp only [go_sem, *, By]; try rfl); (· rfl); simp only [putA]) | (apply ac_ret; simp only [putA]) | apply ac_panic | (apply x_callA []; (· simp only [go_sem, *, By]; try rfl); (· rfl); (· simp only [go_sem, *, By]; try rfl); (· rfl); (iterate 2 (· simp only [go_sem, *, By]; try rfl)); (first | apply hf); simp only [afterCall, putA]) | (apply x_panic; (· simp only [go_sem, *, By]; try rfl); (· rfl); (· simp only [go_sem, *, By]; try rfl)) | (apply x_step; (iterate 2 (· simp only [go_sem, *, By]; try rfl)); (· rfl); simp only [putA]) | (apply x_unwanted; (· simp only [go_sem, *, By]; try rfl); (· rfl); simp only [putA]) | (apply x_condT; (· simp only [go_sem, *, By]; try rfl)) | (apply x_condF; (· simp only [go_sem, *, By]; try rfl)) | (apply x_guardS; (· rfl); (fail_if_success (focus (show _ = some true; (· simp only [go_sem, *, By]; try rfl)))); (· simp only [go_sem, *, By]; try rfl); all_goals (intro hb; try simp only [Bool.not_eq_true', Bool.not_eq_false'] at hb)) | (apply x_condS; (· simp only [go_sem, *, By]; try rfl); all_goals (intro hb; try simp only [Bool.not_eq_true', Bool.not_eq_false'] at hb)) | fail
    refine x_ind (fun (i : Nat × Nat × Nat) env S' => i.1 ≤ 3 ∧ (i.1 + 1 ≤ n ∨ i.1 = 0) ∧ i.2.1 < 256 * 64 ^ i.1 ∧ i.2.2 < 256 * 64 ^ i.1 ∧ spanL (n - 1 - i.1) (r.drop i.1) i.2.1 i.2.2 = spanL (n - 1) r f f ∧ env 1000000 = .dfr [] ∧ env 0 = .sval false (P.map By) ∧ env 5 = .int .i64 (n : Nat) ∧ env 6 = .int .i64 i.2.1 ∧ env 7 = .int .i64 i.2.2 ∧ env 8 = .int .i64 ((i.1 : Int) + 1) ∧ S' = S) (fun i => 4 - i.1) (0, f, f) ?_ ?_
    · exact ⟨Nat.zero_le _, .inr rfl, by simp only; omega, by simp only; omega, rfl, by (simp only [go_sem, *]; try rfl), by (simp only [go_sem, *]; try rfl), by (simp only [go_sem, *]; try rfl), by (simp only [go_sem, *]; try rfl), by (simp only [go_sem, *]; try rfl), by (simp only [go_sem, *]; try rfl), rfl⟩
    · rintro ⟨i, lo, hi⟩ env S' ⟨hi3, hin, hlo, hhi, hsp, e0, f0, e5, e6, e7, e8, rfl⟩ IH
      simp only at hi3 hin hlo hhi hsp e6 e7 e8
      have HI := Lib.hid IH
      have Hsp := Lib.hid hsp
      have H := Lib.hid h
      clear IH h hsp hf
      obtain ⟨M, hM⟩ : ∃ M, 64 ^ i = M := ⟨_, rfl⟩
      have hM3 : M ≤ 262144 := by rw [← hM]; exact Nat.pow_le_pow_right (by decide) hi3
      have hMs : 64 ^ (i + 1) = 64 * M := by rw [Nat.pow_succ, hM, Nat.mul_comm]
      rw [hM] at hlo hhi
      by_cases hlt : i + 1 < n
      · have d0 : decide ((i : Int) + 1 < (n : Int)) = true := by simp; omega
        have w1 : IntKind.i64.wrap ((lo : Int) * 64) = ((lo * 64 : Nat) : Int) := by rw [IntWalk.i64_in _ (by omega)]; omega
        have w2 : IntKind.i64.wrap ((hi : Int) * 64) = ((hi * 64 : Nat) : Int) := by rw [IntWalk.i64_in _ (by omega)]; omega
        have w3 : IntKind.i64.wrap (((hi * 64 : Nat) : Int) + 63) = ((hi * 64 + 63 : Nat) : Int) := by rw [IntWalk.i64_in _ (by omega)]; omega
        have w4 : IntKind.i64.wrap ((i : Int) + 1 + 1) = (i : Int) + 1 + 1 := IntWalk.i64_in _ (by omega)
        have hst : n - 1 - i = (n - 1 - (i + 1)) + 1 := by omega
        by_cases hin2 : i < r.length
        · obtain ⟨b, hx⟩ : ∃ b, r[i]? = some b := ⟨_, List.getElem?_eq_getElem hin2⟩
          have hPx : P[i + 1]? = some b := by rw [Hgs.out, hx]
          have hb := Hp.out b (List.mem_of_getElem? hPx)
          have d1 : decide ((i : Int) + 1 < (P.length : Int)) = true := by rw [Hlen.out]; simp; omega
          have hdr : r.drop i = b :: r.drop (i + 1) := by
            rw [List.drop_eq_getElem_cons hin2]
            have := (List.getElem?_eq_some_iff.1 hx).2
            rw [this]
          have htn : ((i : Int) + 1).toNat = i + 1 := by omega
          have hge : decide ((0 : Int) ≤ (i : Int) + 1) = true := by simp; omega
          by_cases hbad : b < 128 ∨ 191 < b
          · have hz : spanR P = (0, 0, 0) := by
              rw [Hspan.out, ← Hsp.out, hdr, hst, spanL, if_pos hbad]
            have hh := H.out
            rw [hz] at hh
            have hh : R (.ret (.tup [.int .i64 0, .int .i64 0, .int .i64 0])) S' := hh
            rcases Nat.lt_or_ge b 128 with hb1 | hb1
            · have d2 : decide ((b : Int) < 128) = true := by simp; omega
              clear hM3 hMs hlo hhi hst hbad hz hdr hlt hin2 hi3 hin hb hb1 hrl hn4 hf256 hM hx
              repeat' first | apply x_seq | apply x_skip | apply x_block | apply x_exit | apply x_ret | apply x_ops_nil | apply p_blk | apply p_exit_it | apply p_exit_hit | apply p_ret_it | apply p_ret_blk | apply p_panic_it | apply p_panic_blk | apply p_end | (apply p_exit_miss; (· rfl)) | (apply x_region; simp only [List.toList_toArray]) | (apply x_step0; (· rfl); (· simp only [go_sem, *, By]; try rfl); (· rfl); simp only [putA]) | (apply ac_ret; simp only [putA]) | apply ac_panic | (apply x_panic; (· simp only [go_sem, *, By]; try rfl); (· rfl); (· simp only [go_sem, *, By]; try rfl)) | (apply x_step; (iterate 2 (· simp only [go_sem, *, By]; try rfl)); (· rfl); simp only [putA]) | (apply x_unwanted; (· simp only [go_sem, *, By]; try rfl); (· rfl); simp only [putA]) | (apply x_condT; (· simp only [go_sem, *, By]; try rfl)) | (apply x_condF; (· simp only [go_sem, *, By]; try rfl)) | (apply x_guardS; (· rfl); (fail_if_success (focus (show _ = some true; (· simp only [go_sem, *, By]; try rfl)))); (· simp only [go_sem, *, By]; try rfl); all_goals (intro hb; try simp only [Bool.not_eq_true', Bool.not_eq_false'] at hb)) | (apply x_condS; (· simp only [go_sem, *, By]; try rfl); all_goals (intro hb; try simp only [Bool.not_eq_true', Bool.not_eq_false'] at hb)) | fail
              (apply f_ret; iterate 7 (· simp only [go_sem, *, Tryz.results117]; try rfl))
              exact hh
            · have d2 : decide ((b : Int) < 128) = false := by simp; omega
              have d3 : decide ((191 : Int) < (b : Int)) = true := by simp; omega
              clear hM3 hMs hlo hhi hst hbad hz hdr hlt hin2 hi3 hin hb hb1 hrl hn4 hf256 hM hx
              repeat' first | apply x_seq | apply x_skip | apply x_block | apply x_exit | apply x_ret | apply x_ops_nil | apply p_blk | apply p_exit_it | apply p_exit_hit | apply p_ret_it | apply p_ret_blk | apply p_panic_it | apply p_panic_blk | apply p_end | (apply p_exit_miss; (· rfl)) | (apply x_region; simp only [List.toList_toArray]) | (apply x_step0; (· rfl); (· simp only [go_sem, *, By]; try rfl); (· rfl); simp only [putA]) | (apply ac_ret; simp only [putA]) | apply ac_panic | (apply x_panic; (· simp only [go_sem, *, By]; try rfl); (· rfl); (· simp only [go_sem, *, By]; try rfl)) | (apply x_step; (iterate 2 (· simp only [go_sem, *, By]; try rfl)); (· rfl); simp only [putA]) | (apply x_unwanted; (· simp only [go_sem, *, By]; try rfl); (· rfl); simp only [putA]) | (apply x_condT; (· simp only [go_sem, *, By]; try rfl)) | (apply x_condF; (· simp only [go_sem, *, By]; try rfl)) | (apply x_guardS; (· rfl); (fail_if_success (focus (show _ = some true; (· simp only [go_sem, *, By]; try rfl)))); (· simp only [go_sem, *, By]; try rfl); all_goals (intro hb; try simp only [Bool.not_eq_true', Bool.not_eq_false'] at hb)) | (apply x_condS; (· simp only [go_sem, *, By]; try rfl); all_goals (intro hb; try simp only [Bool.not_eq_true', Bool.not_eq_false'] at hb)) | fail
              (apply f_ret; iterate 7 (· simp only [go_sem, *, Tryz.results117]; try rfl))
              exact hh
          · have d2 : decide ((b : Int) < 128) = false := by simp; omega
            have d3 : decide ((191 : Int) < (b : Int)) = false := by simp; omega
            have hw : IntKind.i64.wrap (b : Int) = b := IntWalk.i64_in _ (by omega)
            have w5 : IntKind.i64.wrap ((b : Int) - 128) = ((b - 128 : Nat) : Int) := by rw [IntWalk.i64_in _ (by omega)]; omega
            have w6 : IntKind.i64.wrap (((lo * 64 : Nat) : Int) + ((b - 128 : Nat) : Int)) = ((lo * 64 + (b - 128) : Nat) : Int) := by rw [IntWalk.i64_in _ (by omega)]; omega
            have w7 : IntKind.i64.wrap (((hi * 64 + 63 : Nat) : Int) - 63) = ((hi * 64 : Nat) : Int) := by rw [IntWalk.i64_in _ (by omega)]; omega
            have w8 : IntKind.i64.wrap (((hi * 64 : Nat) : Int) + ((b - 128 : Nat) : Int)) = ((hi * 64 + (b - 128) : Nat) : Int) := by rw [IntWalk.i64_in _ (by omega)]; omega
            have hsp2 : spanL (n - 1 - (i + 1)) (r.drop (i + 1)) (lo * 64 + (b - 128)) (hi * 64 + (b - 128)) = spanL (n - 1) r f f := by
              rw [← Hsp.out, hdr, hst, spanL, if_neg hbad]
            have hq1 : lo * 64 + (b - 128) < 256 * 64 ^ (i + 1) := by rw [hMs]; omega
            have hq2 : hi * 64 + (b - 128) < 256 * 64 ^ (i + 1) := by rw [hMs]; omega
            have hi4 : i + 1 ≤ 3 := by omega
            have HF := Lib.hid (And.intro hsp2 (And.intro hq1 (And.intro hq2 (And.intro hi4 hlt))))
            clear hM3 hMs hlo hhi hst hbad hdr hlt hin2 hi3 hin hb hrl hn4 hf256 hM hx hsp2 hq1 hq2 hi4
            repeat' first | apply x_seq | apply x_skip | apply x_block | apply x_exit | apply x_ret | apply x_ops_nil | apply p_blk | apply p_exit_it | apply p_exit_hit | apply p_ret_it | apply p_ret_blk | apply p_panic_it | apply p_panic_blk | apply p_end | (apply p_exit_miss; (· rfl)) | (apply x_region; simp only [List.toList_toArray]) | (apply x_step0; (· rfl); (· simp only [go_sem, *, By]; try rfl); (· rfl); simp only [putA]) | (apply ac_ret; simp only [putA]) | apply ac_panic | (apply x_panic; (· simp only [go_sem, *, By]; try rfl); (· rfl); (· simp only [go_sem, *, By]; try rfl)) | (apply x_step; (iterate 2 (· simp only [go_sem, *, By]; try rfl)); (· rfl); simp only [putA]) | (apply x_unwanted; (· simp only [go_sem, *, By]; try rfl); (· rfl); simp only [putA]) | (apply x_condT; (· simp only [go_sem, *, By]; try rfl)) | (apply x_condF; (· simp only [go_sem, *, By]; try rfl)) | (apply x_guardS; (· rfl); (fail_if_success (focus (show _ = some true; (· simp only [go_sem, *, By]; try rfl)))); (· simp only [go_sem, *, By]; try rfl); all_goals (intro hb; try simp only [Bool.not_eq_true', Bool.not_eq_false'] at hb)) | (apply x_condS; (· simp only [go_sem, *, By]; try rfl); all_goals (intro hb; try simp only [Bool.not_eq_true', Bool.not_eq_false'] at hb)) | fail
            obtain ⟨hsp2, hq1, hq2, hi4, hlt⟩ := HF.out
            refine HI.out (i + 1, lo * 64 + (b - 128), hi * 64 + (b - 128)) _ _ (by simp only; omega) ⟨hi4, .inl hlt, hq1, hq2, hsp2, ?_, ?_, ?_, ?_, ?_, ?_, rfl⟩
            all_goals (simp only [go_sem, *]; try rfl)
        · have d1 : decide ((i : Int) + 1 < (P.length : Int)) = false := by rw [Hlen.out]; simp; omega
          have hdr : r.drop i = [] := List.drop_eq_nil_of_le (by omega)
          have hsp2 : spanL (n - 1 - (i + 1)) (r.drop (i + 1)) (lo * 64) (hi * 64 + 63) = spanL (n - 1) r f f := by
            rw [← Hsp.out, hdr, hst, spanL, List.drop_eq_nil_of_le (by omega)]
          have hq1 : lo * 64 < 256 * 64 ^ (i + 1) := by rw [hMs]; omega
          have hq2 : hi * 64 + 63 < 256 * 64 ^ (i + 1) := by rw [hMs]; omega
          have hi4 : i + 1 ≤ 3 := by omega
          have HF := Lib.hid (And.intro hsp2 (And.intro hq1 (And.intro hq2 (And.intro hi4 hlt))))
          clear hM3 hMs hlo hhi hst hdr hlt hin2 hi3 hin hrl hn4 hf256 hM hsp2 hq1 hq2 hi4
          repeat' first | refine st ?_ | (refine br ?_ ?_; all_goals (intro hb; try simp only [Bool.not_eq_true', Bool.not_eq_false'] at hb)) | fail
          obtain ⟨hsp2, hq1, hq2, hi4, hlt⟩ := HF.out
          refine HI.out (i + 1, lo * 64, hi * 64 + 63) _ _ (by simp only; omega) ⟨hi4, .inl hlt, hq1, hq2, hsp2, ?_, ?_, ?_, ?_, ?_, ?_, rfl⟩
          all_goals (simp only [go_sem, *]; try rfl)
      · have d0 : decide ((i : Int) + 1 < (n : Int)) = false := by simp; omega
        have hsp3 : spanL (n - 1) r f f = some (lo, hi) := by
          rw [← Hsp.out, show n - 1 - i = 0 by omega, spanL]
        have hh := H.out
        rw [Hspan.out, hsp3] at hh
        simp only at hh
        by_cases hnl : n < r.length + 1
        · rw [if_pos hnl] at hh
          have hh : R (.ret (.tup [.int .i64 0, .int .i64 0, .int .i64 0])) S' := hh
          have d1 : decide ((n : Int) < (P.length : Int)) = true := by rw [Hlen.out]; simp; omega
          clear hM3 hMs hlo hhi hlt hi3 hin hrl hn4 hf256 hM hsp3 hnl
          repeat' first | refine st ?_ | (refine br ?_ ?_; all_goals (intro hb; try simp only [Bool.not_eq_true', Bool.not_eq_false'] at hb)) | fail
          (apply f_ret; iterate 7 (· simp only [go_sem, *, Tryz.results117]; try rfl))
          exact hh
        · rw [if_neg hnl] at hh
          unfold spanV at hh
          simp only at hh
          have d1 : decide ((n : Int) < (P.length : Int)) = false := by rw [Hlen.out]; simp; omega
          clear hM3 hMs hlo hhi hlt hi3 hin hrl hn4 hf256 hM hsp3 hnl
          repeat' first | refine st ?_ | (refine br ?_ ?_; all_goals (intro hb; try simp only [Bool.not_eq_true', Bool.not_eq_false'] at hb)) | fail
          (apply f_ret; iterate 7 (· simp only [go_sem, *, Tryz.results117]; try rfl))
          exact hh
end Go.Proofs.YtfnnjkbhmoomjaaGreatDoor
namespace Go.Proofs.YtfnnjkbhmoomjaaGreatDoor
open Go Go.Fen
set_option linter.unusedSimpArgs false
set_option linter.unusedVariables false
attribute [local irreducible] RunX WP ACall AnyP OpA ProtL afterCall afterOp
set_option maxRecDepth 8000
theorem spanL_lt : ∀ (n : Nat) (r : List Nat) (lo hi : Nat) (q : Nat × Nat), spanL n r lo hi = some q → q.1 ≤ (lo + 1) * 64 ^ n ∧ q.2 + 1 ≤ (hi + 1) * 64 ^ n
  | 0, r, lo, hi, q, h => by
    rw [spanL] at h; cases h; simp
  | n + 1, [], lo, hi, q, h => by
    rw [spanL] at h
    have := spanL_lt n [] _ _ q h
    rw [Nat.pow_succ, ← Nat.mul_assoc, ← Nat.mul_assoc]
    have e1 : (lo + 1) * 64 ^ n * 64 = (lo * 64 + 64) * 64 ^ n := by rw [Nat.mul_right_comm, Nat.add_mul]
    have e2 : (hi + 1) * 64 ^ n * 64 = (hi * 64 + 63 + 1) * 64 ^ n := by rw [Nat.mul_right_comm, Nat.add_mul]
    rw [e1, e2]
    refine ⟨Nat.le_trans this.1 (Nat.mul_le_mul_right _ (by omega)), this.2⟩
  | n + 1, b :: r, lo, hi, q, h => by
    rw [spanL] at h
    split at h
    · cases h
    · have := spanL_lt n r _ _ q h
      rw [Nat.pow_succ, ← Nat.mul_assoc, ← Nat.mul_assoc]
      have e1 : (lo + 1) * 64 ^ n * 64 = (lo * 64 + 64) * 64 ^ n := by rw [Nat.mul_right_comm, Nat.add_mul]
      have e2 : (hi + 1) * 64 ^ n * 64 = (hi * 64 + 64) * 64 ^ n := by rw [Nat.mul_right_comm, Nat.add_mul]
      rw [e1, e2]
      refine ⟨Nat.le_trans this.1 (Nat.mul_le_mul_right _ (by omega)), Nat.le_trans this.2 (Nat.mul_le_mul_right _ (by omega))⟩
theorem spanR_le (p : List Nat) (hp : ∀ x ∈ p, x < 256) : (spanR p).1 ≤ 134217728 ∧ (spanR p).2.1 ≤ 134217728 ∧ (spanR p).2.2 ≤ 4 := by
  cases p with
  | nil => simp [spanR]
  | cons a r =>
    have hf := firstR_le a (hp a (List.mem_cons_self ..))
    rw [spanR]
    cases hs : spanL ((firstR a).1 - 1) r (firstR a).2 (firstR a).2 with
    | none => simp
    | some q =>
      have := spanL_lt _ _ _ _ _ hs
      obtain ⟨lo, hi⟩ := q
      simp only at this ⊢
      have h3 : 64 ^ ((firstR a).1 - 1) ≤ 262144 := Nat.pow_le_pow_right (by decide : 64 > 0) (show (firstR a).1 - 1 ≤ 3 by omega)
      have h4 : ((firstR a).2 + 1) * 64 ^ ((firstR a).1 - 1) ≤ 257 * 262144 := Nat.mul_le_mul (by omega) h3
      split
      · simp
      · simp only; omega
set_option maxHeartbeats 4000000 in
theorem rGoes (w0 : World) (S : List Blk) (p : List Nat) (hp : ∀ x ∈ p, x < 256) (h4 : p.length ≤ 4) (R : AOut → List Blk → Prop) (h : R (.ret (.tup [.bool (goesR p).1, .bool (goesR p).2])) S) : ACall Tryz.prog w0 116 [.sval false (p.map By)] S R := by
  have hs := fun S' => rSpan w0 S' p hp h4
  have hle := spanR_le p hp
  unfold spanV at hs
  unfold goesR at h
  simp only at h
  generalize spanR p = q at hs hle h
  obtain ⟨lo, hi, n⟩ := q
  simp only at hs hle h
  obtain ⟨l1, l2, l3⟩ := hle
  have hn : n = 0 ∨ n = 1 ∨ n = 2 ∨ n = 3 ∨ n = 4 := by omega
  clear hp h4 l1 l2 l3
  rcases hn with rfl | rfl | rfl | rfl | rfl
  · have h : R (.ret (.tup [.bool false, .bool false])) S := h
    have e0 : (((0 : Nat) : Int) == 0) = true := rfl
    refine enter Tryz.func116 rfl (by decide +kernel) (by rw [Tryz.ntmps116]; simp) (by rw [Tryz.ntmps116]; decide) (fun hO => ?_); rw [Tryz.ntmps116]
    repeat' first | refine st ?_ | (refine ca ?_; first | apply hs) | (refine br ?_ ?_; all_goals (intro hb; try simp only [Bool.not_eq_true', Bool.not_eq_false'] at hb)) | fail
    (apply f_ret; iterate 7 (· simp only [go_sem, *, Tryz.results116]; try rfl))
    exact h
  all_goals
    rw [if_neg (by decide)] at h
    simp only [leastR, mostR] at h
  · have e0 : (((1 : Nat) : Int) == 0) = false := rfl
    obtain ⟨L, hL⟩ : ∃ L, max lo 0 = L := ⟨_, rfl⟩
    obtain ⟨M, hM⟩ : ∃ M, min hi 127 = M := ⟨_, rfl⟩
    rw [hL, hM] at h
    have m1 : (if (0 : Int) > (lo : Int) then (0 : Int) else (lo : Int)) = (L : Int) := by rw [← hL]; split <;> omega
    have m2 : (if (127 : Int) < (hi : Int) then (127 : Int) else (hi : Int)) = (M : Int) := by rw [← hM]; split <;> omega
    replace hM : M ≤ 127 := by omega
    clear hL
    by_cases c1 : L ≤ M
    · have d1 : decide ((L : Int) ≤ (M : Int)) = true := by simp; omega
      by_cases c2 : 55296 ≤ L
      · exact absurd c1 (by omega)
      · have d2 : decide ((55296 : Int) ≤ (L : Int)) = false := by simp; omega
        by_cases c4 : p.length = 1
        · have d4 : ((p.length : Int) == ((1 : Nat) : Int)) = true := by rw [beq_iff_eq]; omega
          simp only [decide_eq_true c1, decide_eq_false c2, decide_eq_true c4, Bool.true_and, Bool.false_and, Bool.and_true, Bool.not_true, Bool.not_false, Bool.and_false] at h
          clear hM c1 c2 c4
          refine enter Tryz.func116 rfl (by decide +kernel) (by rw [Tryz.ntmps116]; simp) (by rw [Tryz.ntmps116]; decide) (fun hO => ?_); rw [Tryz.ntmps116]
          repeat' first | refine st ?_ | (refine ca ?_; first | apply hs) | (refine br ?_ ?_; all_goals (intro hb; try simp only [Bool.not_eq_true', Bool.not_eq_false'] at hb)) | refine sd ?_ | apply pl_nil | (apply c_end; (· decide +kernel)) | refine bd ?_ ?_ | (refine cd ?_; first | apply hs) | fail
          (apply f_ret; iterate 7 (· simp only [go_sem, *, Tryz.results116]; try rfl))
          exact h
        · have d4 : ((p.length : Int) == ((1 : Nat) : Int)) = false := by rw [beq_eq_false_iff_ne]; omega
          simp only [decide_eq_true c1, decide_eq_false c2, decide_eq_false c4, Bool.true_and, Bool.false_and, Bool.and_true, Bool.not_true, Bool.not_false, Bool.and_false] at h
          clear hM c1 c2 c4
          refine enter Tryz.func116 rfl (by decide +kernel) (by rw [Tryz.ntmps116]; simp) (by rw [Tryz.ntmps116]; decide) (fun hO => ?_); rw [Tryz.ntmps116]
          repeat' first | refine st ?_ | (refine ca ?_; first | apply hs) | (refine br ?_ ?_; all_goals (intro hb; try simp only [Bool.not_eq_true', Bool.not_eq_false'] at hb)) | refine sd ?_ | apply pl_nil | (apply c_end; (· decide +kernel)) | refine bd ?_ ?_ | (refine cd ?_; first | apply hs) | fail
          (apply f_ret; iterate 7 (· simp only [go_sem, *, Tryz.results116]; try rfl))
          exact h
    · have d1 : decide ((L : Int) ≤ (M : Int)) = false := by simp; omega
      simp only [decide_eq_false c1, Bool.true_and, Bool.false_and, Bool.and_true, Bool.not_true, Bool.not_false, Bool.and_false] at h
      clear hM c1
      refine enter Tryz.func116 rfl (by decide +kernel) (by rw [Tryz.ntmps116]; simp) (by rw [Tryz.ntmps116]; decide) (fun hO => ?_); rw [Tryz.ntmps116]
      repeat' first | refine st ?_ | (refine ca ?_; first | apply hs) | (refine br ?_ ?_; all_goals (intro hb; try simp only [Bool.not_eq_true', Bool.not_eq_false'] at hb)) | refine sd ?_ | apply pl_nil | (apply c_end; (· decide +kernel)) | refine bd ?_ ?_ | (refine cd ?_; first | apply hs) | fail
      (apply f_ret; iterate 7 (· simp only [go_sem, *, Tryz.results116]; try rfl))
      exact h
  · have e0 : (((2 : Nat) : Int) == 0) = false := rfl
    obtain ⟨L, hL⟩ : ∃ L, max lo 128 = L := ⟨_, rfl⟩
    obtain ⟨M, hM⟩ : ∃ M, min hi 2047 = M := ⟨_, rfl⟩
    rw [hL, hM] at h
    have m1 : (if (128 : Int) > (lo : Int) then (128 : Int) else (lo : Int)) = (L : Int) := by rw [← hL]; split <;> omega
    have m2 : (if (2047 : Int) < (hi : Int) then (2047 : Int) else (hi : Int)) = (M : Int) := by rw [← hM]; split <;> omega
    replace hM : M ≤ 2047 := by omega
    clear hL
    by_cases c1 : L ≤ M
    · have d1 : decide ((L : Int) ≤ (M : Int)) = true := by simp; omega
      by_cases c2 : 55296 ≤ L
      · exact absurd c1 (by omega)
      · have d2 : decide ((55296 : Int) ≤ (L : Int)) = false := by simp; omega
        by_cases c4 : p.length = 2
        · have d4 : ((p.length : Int) == ((2 : Nat) : Int)) = true := by rw [beq_iff_eq]; omega
          simp only [decide_eq_true c1, decide_eq_false c2, decide_eq_true c4, Bool.true_and, Bool.false_and, Bool.and_true, Bool.not_true, Bool.not_false, Bool.and_false] at h
          clear hM c1 c2 c4
          refine enter Tryz.func116 rfl (by decide +kernel) (by rw [Tryz.ntmps116]; simp) (by rw [Tryz.ntmps116]; decide) (fun hO => ?_); rw [Tryz.ntmps116]
          repeat' first | refine st ?_ | (refine ca ?_; first | apply hs) | (refine br ?_ ?_; all_goals (intro hb; try simp only [Bool.not_eq_true', Bool.not_eq_false'] at hb)) | refine sd ?_ | apply pl_nil | (apply c_end; (· decide +kernel)) | refine bd ?_ ?_ | (refine cd ?_; first | apply hs) | fail
          (apply f_ret; iterate 7 (· simp only [go_sem, *, Tryz.results116]; try rfl))
          exact h
        · have d4 : ((p.length : Int) == ((2 : Nat) : Int)) = false := by rw [beq_eq_false_iff_ne]; omega
          simp only [decide_eq_true c1, decide_eq_false c2, decide_eq_false c4, Bool.true_and, Bool.false_and, Bool.and_true, Bool.not_true, Bool.not_false, Bool.and_false] at h
          clear hM c1 c2 c4
          refine enter Tryz.func116 rfl (by decide +kernel) (by rw [Tryz.ntmps116]; simp) (by rw [Tryz.ntmps116]; decide) (fun hO => ?_); rw [Tryz.ntmps116]
          repeat' first | refine st ?_ | (refine ca ?_; first | apply hs) | (refine br ?_ ?_; all_goals (intro hb; try simp only [Bool.not_eq_true', Bool.not_eq_false'] at hb)) | refine sd ?_ | apply pl_nil | (apply c_end; (· decide +kernel)) | refine bd ?_ ?_ | (refine cd ?_; first | apply hs) | fail
          (apply f_ret; iterate 7 (· simp only [go_sem, *, Tryz.results116]; try rfl))
          exact h
    · have d1 : decide ((L : Int) ≤ (M : Int)) = false := by simp; omega
      simp only [decide_eq_false c1, Bool.true_and, Bool.false_and, Bool.and_true, Bool.not_true, Bool.not_false, Bool.and_false] at h
      clear hM c1
      refine enter Tryz.func116 rfl (by decide +kernel) (by rw [Tryz.ntmps116]; simp) (by rw [Tryz.ntmps116]; decide) (fun hO => ?_); rw [Tryz.ntmps116]
      repeat' first | refine st ?_ | (refine ca ?_; first | apply hs) | (refine br ?_ ?_; all_goals (intro hb; try simp only [Bool.not_eq_true', Bool.not_eq_false'] at hb)) | refine sd ?_ | apply pl_nil | (apply c_end; (· decide +kernel)) | refine bd ?_ ?_ | (refine cd ?_; first | apply hs) | fail
      (apply f_ret; iterate 7 (· simp only [go_sem, *, Tryz.results116]; try rfl))
      exact h
  · have e0 : (((3 : Nat) : Int) == 0) = false := rfl
    obtain ⟨L, hL⟩ : ∃ L, max lo 2048 = L := ⟨_, rfl⟩
    obtain ⟨M, hM⟩ : ∃ M, min hi 65535 = M := ⟨_, rfl⟩
    rw [hL, hM] at h
    have m1 : (if (2048 : Int) > (lo : Int) then (2048 : Int) else (lo : Int)) = (L : Int) := by rw [← hL]; split <;> omega
    have m2 : (if (65535 : Int) < (hi : Int) then (65535 : Int) else (hi : Int)) = (M : Int) := by rw [← hM]; split <;> omega
    replace hM : M ≤ 65535 := by omega
    clear hL
    by_cases c1 : L ≤ M
    · have d1 : decide ((L : Int) ≤ (M : Int)) = true := by simp; omega
      by_cases c2 : 55296 ≤ L
      · have d2 : decide ((55296 : Int) ≤ (L : Int)) = true := by simp; omega
        by_cases c3 : M ≤ 57343
        · have d3 : decide ((M : Int) ≤ 57343) = true := by simp; omega
          simp only [decide_eq_true c1, decide_eq_true c2, decide_eq_true c3, Bool.true_and, Bool.false_and, Bool.and_true, Bool.not_true, Bool.not_false, Bool.and_false] at h
          clear hM c1 c2 c3
          refine enter Tryz.func116 rfl (by decide +kernel) (by rw [Tryz.ntmps116]; simp) (by rw [Tryz.ntmps116]; decide) (fun hO => ?_); rw [Tryz.ntmps116]
          repeat' first | refine st ?_ | (refine ca ?_; first | apply hs) | (refine br ?_ ?_; all_goals (intro hb; try simp only [Bool.not_eq_true', Bool.not_eq_false'] at hb)) | refine sd ?_ | apply pl_nil | (apply c_end; (· decide +kernel)) | refine bd ?_ ?_ | (refine cd ?_; first | apply hs) | fail
          (apply f_ret; iterate 7 (· simp only [go_sem, *, Tryz.results116]; try rfl))
          exact h
        · have d3 : decide ((M : Int) ≤ 57343) = false := by simp; omega
          by_cases c4 : p.length = 3
          · have d4 : ((p.length : Int) == ((3 : Nat) : Int)) = true := by rw [beq_iff_eq]; omega
            simp only [decide_eq_true c1, decide_eq_true c2, decide_eq_false c3, decide_eq_true c4, Bool.true_and, Bool.false_and, Bool.and_true, Bool.not_true, Bool.not_false, Bool.and_false] at h
            clear hM c1 c2 c3 c4
            refine enter Tryz.func116 rfl (by decide +kernel) (by rw [Tryz.ntmps116]; simp) (by rw [Tryz.ntmps116]; decide) (fun hO => ?_); rw [Tryz.ntmps116]
            repeat' first | refine st ?_ | (refine ca ?_; first | apply hs) | (refine br ?_ ?_; all_goals (intro hb; try simp only [Bool.not_eq_true', Bool.not_eq_false'] at hb)) | refine sd ?_ | apply pl_nil | (apply c_end; (· decide +kernel)) | refine bd ?_ ?_ | (refine cd ?_; first | apply hs) | fail
            (apply f_ret; iterate 7 (· simp only [go_sem, *, Tryz.results116]; try rfl))
            exact h
          · have d4 : ((p.length : Int) == ((3 : Nat) : Int)) = false := by rw [beq_eq_false_iff_ne]; omega
            simp only [decide_eq_true c1, decide_eq_true c2, decide_eq_false c3, decide_eq_false c4, Bool.true_and, Bool.false_and, Bool.and_true, Bool.not_true, Bool.not_false, Bool.and_false] at h
            clear hM c1 c2 c3 c4
            refine enter Tryz.func116 rfl (by decide +kernel) (by rw [Tryz.ntmps116]; simp) (by rw [Tryz.ntmps116]; decide) (fun hO => ?_); rw [Tryz.ntmps116]
            repeat' first | refine st ?_ | (refine ca ?_; first | apply hs) | (refine br ?_ ?_; all_goals (intro hb; try simp only [Bool.not_eq_true', Bool.not_eq_false'] at hb)) | refine sd ?_ | apply pl_nil | (apply c_end; (· decide +kernel)) | refine bd ?_ ?_ | (refine cd ?_; first | apply hs) | fail
            (apply f_ret; iterate 7 (· simp only [go_sem, *, Tryz.results116]; try rfl))
            exact h
      · have d2 : decide ((55296 : Int) ≤ (L : Int)) = false := by simp; omega
        by_cases c4 : p.length = 3
        · have d4 : ((p.length : Int) == ((3 : Nat) : Int)) = true := by rw [beq_iff_eq]; omega
          simp only [decide_eq_true c1, decide_eq_false c2, decide_eq_true c4, Bool.true_and, Bool.false_and, Bool.and_true, Bool.not_true, Bool.not_false, Bool.and_false] at h
          clear hM c1 c2 c4
          refine enter Tryz.func116 rfl (by decide +kernel) (by rw [Tryz.ntmps116]; simp) (by rw [Tryz.ntmps116]; decide) (fun hO => ?_); rw [Tryz.ntmps116]
          repeat' first | refine st ?_ | (refine ca ?_; first | apply hs) | (refine br ?_ ?_; all_goals (intro hb; try simp only [Bool.not_eq_true', Bool.not_eq_false'] at hb)) | refine sd ?_ | apply pl_nil | (apply c_end; (· decide +kernel)) | refine bd ?_ ?_ | (refine cd ?_; first | apply hs) | fail
          (apply f_ret; iterate 7 (· simp only [go_sem, *, Tryz.results116]; try rfl))
          exact h
        · have d4 : ((p.length : Int) == ((3 : Nat) : Int)) = false := by rw [beq_eq_false_iff_ne]; omega
          simp only [decide_eq_true c1, decide_eq_false c2, decide_eq_false c4, Bool.true_and, Bool.false_and, Bool.and_true, Bool.not_true, Bool.not_false, Bool.and_false] at h
          clear hM c1 c2 c4
          refine enter Tryz.func116 rfl (by decide +kernel) (by rw [Tryz.ntmps116]; simp) (by rw [Tryz.ntmps116]; decide) (fun hO => ?_); rw [Tryz.ntmps116]
          repeat' first | refine st ?_ | (refine ca ?_; first | apply hs) | (refine br ?_ ?_; all_goals (intro hb; try simp only [Bool.not_eq_true', Bool.not_eq_false'] at hb)) | refine sd ?_ | apply pl_nil | (apply c_end; (· decide +kernel)) | refine bd ?_ ?_ | (refine cd ?_; first | apply hs) | fail
          (apply f_ret; iterate 7 (· simp only [go_sem, *, Tryz.results116]; try rfl))
          exact h
    · have d1 : decide ((L : Int) ≤ (M : Int)) = false := by simp; omega
      simp only [decide_eq_false c1, Bool.true_and, Bool.false_and, Bool.and_true, Bool.not_true, Bool.not_false, Bool.and_false] at h
      clear hM c1
      refine enter Tryz.func116 rfl (by decide +kernel) (by rw [Tryz.ntmps116]; simp) (by rw [Tryz.ntmps116]; decide) (fun hO => ?_); rw [Tryz.ntmps116]
      repeat' first | refine st ?_ | (refine ca ?_; first | apply hs) | (refine br ?_ ?_; all_goals (intro hb; try simp only [Bool.not_eq_true', Bool.not_eq_false'] at hb)) | refine sd ?_ | apply pl_nil | (apply c_end; (· decide +kernel)) | refine bd ?_ ?_ | (refine cd ?_; first | apply hs) | fail
      (apply f_ret; iterate 7 (· simp only [go_sem, *, Tryz.results116]; try rfl))
      exact h
  · have e0 : (((4 : Nat) : Int) == 0) = false := rfl
    obtain ⟨L, hL⟩ : ∃ L, max lo 65536 = L := ⟨_, rfl⟩
    obtain ⟨M, hM⟩ : ∃ M, min hi 1114111 = M := ⟨_, rfl⟩
    rw [hL, hM] at h
    have m1 : (if (65536 : Int) > (lo : Int) then (65536 : Int) else (lo : Int)) = (L : Int) := by rw [← hL]; split <;> omega
    have m2 : (if (1114111 : Int) < (hi : Int) then (1114111 : Int) else (hi : Int)) = (M : Int) := by rw [← hM]; split <;> omega
    replace hM : M ≤ 1114111 := by omega
    clear hL
    by_cases c1 : L ≤ M
    · have d1 : decide ((L : Int) ≤ (M : Int)) = true := by simp; omega
      by_cases c2 : 55296 ≤ L
      · have d2 : decide ((55296 : Int) ≤ (L : Int)) = true := by simp; omega
        by_cases c3 : M ≤ 57343
        · have d3 : decide ((M : Int) ≤ 57343) = true := by simp; omega
          simp only [decide_eq_true c1, decide_eq_true c2, decide_eq_true c3, Bool.true_and, Bool.false_and, Bool.and_true, Bool.not_true, Bool.not_false, Bool.and_false] at h
          clear hM c1 c2 c3
          refine enter Tryz.func116 rfl (by decide +kernel) (by rw [Tryz.ntmps116]; simp) (by rw [Tryz.ntmps116]; decide) (fun hO => ?_); rw [Tryz.ntmps116]
          repeat' first | refine st ?_ | (refine ca ?_; first | apply hs) | (refine br ?_ ?_; all_goals (intro hb; try simp only [Bool.not_eq_true', Bool.not_eq_false'] at hb)) | refine sd ?_ | apply pl_nil | (apply c_end; (· decide +kernel)) | refine bd ?_ ?_ | (refine cd ?_; first | apply hs) | fail
          (apply f_ret; iterate 7 (· simp only [go_sem, *, Tryz.results116]; try rfl))
          exact h
        · have d3 : decide ((M : Int) ≤ 57343) = false := by simp; omega
          by_cases c4 : p.length = 4
          · have d4 : ((p.length : Int) == ((4 : Nat) : Int)) = true := by rw [beq_iff_eq]; omega
            simp only [decide_eq_true c1, decide_eq_true c2, decide_eq_false c3, decide_eq_true c4, Bool.true_and, Bool.false_and, Bool.and_true, Bool.not_true, Bool.not_false, Bool.and_false] at h
            clear hM c1 c2 c3 c4
            refine enter Tryz.func116 rfl (by decide +kernel) (by rw [Tryz.ntmps116]; simp) (by rw [Tryz.ntmps116]; decide) (fun hO => ?_); rw [Tryz.ntmps116]
            repeat' first | refine st ?_ | (refine ca ?_; first | apply hs) | (refine br ?_ ?_; all_goals (intro hb; try simp only [Bool.not_eq_true', Bool.not_eq_false'] at hb)) | refine sd ?_ | apply pl_nil | (apply c_end; (· decide +kernel)) | refine bd ?_ ?_ | (refine cd ?_; first | apply hs) | fail
            (apply f_ret; iterate 7 (· simp only [go_sem, *, Tryz.results116]; try rfl))
            exact h
          · have d4 : ((p.length : Int) == ((4 : Nat) : Int)) = false := by rw [beq_eq_false_iff_ne]; omega
            simp only [decide_eq_true c1, decide_eq_true c2, decide_eq_false c3, decide_eq_false c4, Bool.true_and, Bool.false_and, Bool.and_true, Bool.not_true, Bool.not_false, Bool.and_false] at h
            clear hM c1 c2 c3 c4
            refine enter Tryz.func116 rfl (by decide +kernel) (by rw [Tryz.ntmps116]; simp) (by rw [Tryz.ntmps116]; decide) (fun hO => ?_); rw [Tryz.ntmps116]
            repeat' first | refine st ?_ | (refine ca ?_; first | apply hs) | (refine br ?_ ?_; all_goals (intro hb; try simp only [Bool.not_eq_true', Bool.not_eq_false'] at hb)) | refine sd ?_ | apply pl_nil | (apply c_end; (· decide +kernel)) | refine bd ?_ ?_ | (refine cd ?_; first | apply hs) | fail
            (apply f_ret; iterate 7 (· simp only [go_sem, *, Tryz.results116]; try rfl))
            exact h
      · have d2 : decide ((55296 : Int) ≤ (L : Int)) = false := by simp; omega
        by_cases c4 : p.length = 4
        · have d4 : ((p.length : Int) == ((4 : Nat) : Int)) = true := by rw [beq_iff_eq]; omega
          simp only [decide_eq_true c1, decide_eq_false c2, decide_eq_true c4, Bool.true_and, Bool.false_and, Bool.and_true, Bool.not_true, Bool.not_false, Bool.and_false] at h
          clear hM c1 c2 c4
          refine enter Tryz.func116 rfl (by decide +kernel) (by rw [Tryz.ntmps116]; simp) (by rw [Tryz.ntmps116]; decide) (fun hO => ?_); rw [Tryz.ntmps116]
          repeat' first | refine st ?_ | (refine ca ?_; first | apply hs) | (refine br ?_ ?_; all_goals (intro hb; try simp only [Bool.not_eq_true', Bool.not_eq_false'] at hb)) | refine sd ?_ | apply pl_nil | (apply c_end; (· decide +kernel)) | refine bd ?_ ?_ | (refine cd ?_; first | apply hs) | fail
          (apply f_ret; iterate 7 (· simp only [go_sem, *, Tryz.results116]; try rfl))
          exact h
        · have d4 : ((p.length : Int) == ((4 : Nat) : Int)) = false := by rw [beq_eq_false_iff_ne]; omega
          simp only [decide_eq_true c1, decide_eq_false c2, decide_eq_false c4, Bool.true_and, Bool.false_and, Bool.and_true, Bool.not_true, Bool.not_false, Bool.and_false] at h
          clear hM c1 c2 c4
          refine enter Tryz.func116 rfl (by decide +kernel) (by rw [Tryz.ntmps116]; simp) (by rw [Tryz.ntmps116]; decide) (fun hO => ?_); rw [Tryz.ntmps116]
          repeat' first | refine st ?_ | (refine ca ?_; first | apply hs) | (refine br ?_ ?_; all_goals (intro hb; try simp only [Bool.not_eq_true', Bool.not_eq_false'] at hb)) | refine sd ?_ | apply pl_nil | (apply c_end; (· decide +kernel)) | refine bd ?_ ?_ | (refine cd ?_; first | apply hs) | fail
          (apply f_ret; iterate 7 (· simp only [go_sem, *, Tryz.results116]; try rfl))
          exact h
    · have d1 : decide ((L : Int) ≤ (M : Int)) = false := by simp; omega
      simp only [decide_eq_false c1, Bool.true_and, Bool.false_and, Bool.and_true, Bool.not_true, Bool.not_false, Bool.and_false] at h
      clear hM c1
      refine enter Tryz.func116 rfl (by decide +kernel) (by rw [Tryz.ntmps116]; simp) (by rw [Tryz.ntmps116]; decide) (fun hO => ?_); rw [Tryz.ntmps116]
      repeat' first | refine st ?_ | (refine ca ?_; first | apply hs) | (refine br ?_ ?_; all_goals (intro hb; try simp only [Bool.not_eq_true', Bool.not_eq_false'] at hb)) | refine sd ?_ | apply pl_nil | (apply c_end; (· decide +kernel)) | refine bd ?_ ?_ | (refine cd ?_; first | apply hs) | fail
      (apply f_ret; iterate 7 (· simp only [go_sem, *, Tryz.results116]; try rfl))
      exact h
end Go.Proofs.YtfnnjkbhmoomjaaGreatDoor
namespace Go.Proofs.YtfnnjkbhmoomjaaGreatDoor
open Go Go.Fen
set_option linter.unusedSimpArgs false
set_option linter.unusedVariables false
attribute [local irreducible] RunX WP ACall AnyP OpA ProtL afterCall afterOp
set_option maxRecDepth 8000
theorem kind_012 (p : List Nat) : kindU p = 0 ∨ kindU p = 1 ∨ kindU p = 2 := by
  cases p with
  | nil => exact .inl rfl
  | cons a r =>
    simp only [kindU]
    repeat' split
    all_goals simp
set_option maxHeartbeats 1000000 in
theorem rRight (w0 : World) (S : List Blk) (p : List Nat) (hp : ∀ x ∈ p, x < 256) (h4 : p.length ≤ 4) (R : AOut → List Blk → Prop) (h : R (.ret (.bool (rightU p))) S) : ACall Tryz.prog w0 115 [.sval false (p.map By)] S R := by
  have hg := fun S' => rGoes w0 S' p hp h4
  rw [goes_kind] at hg
  by_cases he : p = []
  · subst he
    have h : R (.ret (.bool true)) S := h
    have hg : ∀ S' (R : AOut → List Blk → Prop), R (.ret (.tup [.bool false, .bool false])) S' → ACall Tryz.prog w0 116 [.sval false (List.map By [])] S' R := hg
    have e0 : (((0 : Nat) : Int) == 0) = true := rfl
    simp only [List.map_nil] at hg ⊢
    clear hp h4
    refine enter Tryz.func115 rfl (by decide +kernel) (by rw [Tryz.ntmps115]; simp) (by rw [Tryz.ntmps115]; decide) (fun hO => ?_); rw [Tryz.ntmps115]
    repeat' first | refine st ?_ | (refine ca ?_; first | apply hg) | (refine br ?_ ?_; all_goals (intro hb; try simp only [Bool.not_eq_true', Bool.not_eq_false'] at hb)) | fail
    (apply f_ret; iterate 7 (· simp only [go_sem, *, Tryz.results115]; try rfl))
    exact h
  · have hl : ((p.length : Int) == 0) = false := by
      rw [beq_eq_false_iff_ne]
      intro e
      exact he (List.length_eq_zero_iff.1 (by omega))
    have hr : rightU p = decide (kindU p = 1) := by unfold rightU; rw [decide_eq_false he, Bool.false_or]
    rw [hr] at h
    have hk := kind_012 p
    generalize kindU p = kd at hg h hk
    clear he hp h4 hr
    rcases hk with rfl | rfl | rfl
    · have h : R (.ret (.bool false)) S := h
      have hg : ∀ S' (R : AOut → List Blk → Prop), R (.ret (.tup [.bool false, .bool false])) S' → ACall Tryz.prog w0 116 [.sval false (List.map By p)] S' R := hg
      refine enter Tryz.func115 rfl (by decide +kernel) (by rw [Tryz.ntmps115]; simp) (by rw [Tryz.ntmps115]; decide) (fun hO => ?_); rw [Tryz.ntmps115]
      repeat' first | refine st ?_ | (refine ca ?_; first | apply hg) | (refine br ?_ ?_; all_goals (intro hb; try simp only [Bool.not_eq_true', Bool.not_eq_false'] at hb)) | fail
      (apply f_ret; iterate 7 (· simp only [go_sem, *, Tryz.results115]; try rfl))
      exact h
    · have h : R (.ret (.bool true)) S := h
      have hg : ∀ S' (R : AOut → List Blk → Prop), R (.ret (.tup [.bool true, .bool false])) S' → ACall Tryz.prog w0 116 [.sval false (List.map By p)] S' R := hg
      refine enter Tryz.func115 rfl (by decide +kernel) (by rw [Tryz.ntmps115]; simp) (by rw [Tryz.ntmps115]; decide) (fun hO => ?_); rw [Tryz.ntmps115]
      repeat' first | refine st ?_ | (refine ca ?_; first | apply hg) | (refine br ?_ ?_; all_goals (intro hb; try simp only [Bool.not_eq_true', Bool.not_eq_false'] at hb)) | fail
      (apply f_ret; iterate 7 (· simp only [go_sem, *, Tryz.results115]; try rfl))
      exact h
    · have h : R (.ret (.bool false)) S := h
      have hg : ∀ S' (R : AOut → List Blk → Prop), R (.ret (.tup [.bool true, .bool true])) S' → ACall Tryz.prog w0 116 [.sval false (List.map By p)] S' R := hg
      refine enter Tryz.func115 rfl (by decide +kernel) (by rw [Tryz.ntmps115]; simp) (by rw [Tryz.ntmps115]; decide) (fun hO => ?_); rw [Tryz.ntmps115]
      repeat' first | refine st ?_ | (refine ca ?_; first | apply hg) | (refine br ?_ ?_; all_goals (intro hb; try simp only [Bool.not_eq_true', Bool.not_eq_false'] at hb)) | fail
      (apply f_ret; iterate 7 (· simp only [go_sem, *, Tryz.results115]; try rfl))
      exact h
set_option maxHeartbeats 1000000 in
theorem rFlush (w0 : World) (S : List Blk) (p : List Nat) (hb : ∀ x ∈ p, x < 256) (hr : rightU p = true) (R : AOut → List Blk → Prop) (h : R (.ret (.sval false ((flushU p).map Co))) S) : ACall Tryz.prog w0 89 [.sval false (p.map By)] S R := by
  have hri := fun S' => rRight w0 S' p hb (Nat.le_succ_of_le (right_len hr))
  rw [hr] at hri
  by_cases hp : p = []
  · subst hp
    have h : R (.ret (.sval false [])) S := h
    have e0 : decide ((0 : Int) < ((0 : Nat) : Int)) = false := rfl
    simp only [List.map_nil]
    clear hr hri hb
    refine enter Tryz.func89 rfl (by decide +kernel) (by rw [Tryz.ntmps89]; simp) (by rw [Tryz.ntmps89]; decide) (fun hO => ?_); rw [Tryz.ntmps89]
    repeat' first | refine st ?_ | (refine br ?_ ?_; all_goals (intro hb; try simp only [Bool.not_eq_true', Bool.not_eq_false'] at hb)) | fail
    (apply f_ret; iterate 7 (· simp only [go_sem, *, Tryz.results89]; try rfl))
    exact h
  · have hl : decide ((0 : Int) < (p.length : Int)) = true := by
      cases p with
      | nil => exact absurd rfl hp
      | cons a r => simp only [List.length_cons, decide_eq_true_eq]; omega
    rw [flushU, if_neg hp] at h
    have h : R (.ret (.sval false [AV.int .i64 65533])) S := h
    clear hr hp hb
    refine enter Tryz.func89 rfl (by decide +kernel) (by rw [Tryz.ntmps89]; simp) (by rw [Tryz.ntmps89]; decide) (fun hO => ?_); rw [Tryz.ntmps89]
    repeat' first | refine st ?_ | (refine ca ?_; first | apply hri) | (refine br ?_ ?_; all_goals (intro hb; try simp only [Bool.not_eq_true', Bool.not_eq_false'] at hb)) | fail
    (apply f_ret; iterate 7 (· simp only [go_sem, *, Tryz.results89]; try rfl))
    exact h
end Go.Proofs.YtfnnjkbhmoomjaaGreatDoor
namespace Go.Proofs.YtfnnjkbhmoomjaaGreatDoor
open Go Go.Fen
set_option linter.unusedSimpArgs false
set_option linter.unusedVariables false
attribute [local irreducible] RunX WP ACall AnyP OpA ProtL afterCall afterOp
set_option maxRecDepth 8000
set_option maxHeartbeats 4000000 in
theorem rStepG (w0 : World) (S : List Blk) (p : List Nat) (b : Nat) (hb : b < 256) (hr : rightU p = true) (hp : ∀ x ∈ p, x < 256)
    (hrec : p ≠ [] → ∀ (S' : List Blk) (R : AOut → List Blk → Prop), R (.ret (stepV (step1 b))) S' → ACall Tryz.prog w0 88 [.sval false [], .int .u8 b] S' R)
    (R : AOut → List Blk → Prop) (h : R (.ret (stepV (stepU p b))) S) : ACall Tryz.prog w0 88 [.sval false (p.map By), .int .u8 b] S R := by
  have hl3 := right_len hr
  have hpb : ∀ x ∈ p ++ [b], x < 256 := by
    intro x hx
    rcases List.mem_append.1 hx with hx | hx
    · exact hp x hx
    · rw [List.mem_singleton.1 hx]; exact hb
  have hri := fun S' => rRight w0 S' p hp (Nat.le_succ_of_le hl3)
  rw [hr] at hri
  have hk := fun S' => rGoes w0 S' (p ++ [b]) hpb (by simp; omega)
  rw [goes_kind] at hk
  have hb0 : p.length * 1 ≤ 140737488355328 := by omega
  have hb00 : (0 + p.length) * 1 ≤ 140737488355328 := by omega
  have hb1 : (p.length + 1) * 1 ≤ 140737488355328 := by omega
  have happ : List.map By p ++ [AV.int .u8 b] = List.map By (p ++ [b]) := by rw [List.map_append]; rfl
  have hlen : (p ++ [b]).length = p.length + 1 := by simp
  have htk : List.take p.length (List.map By p) = List.map By p := List.take_of_length_le (by simp)
  have hc := fun S' => rSpan w0 S' (p ++ [b]) hpb (by simp; omega)
  have hsc := span_code (p := p ++ [b])
  have hall := By.all1 p
  simp only [AV.cells] at hall
  have okA := By.ok p
  simp only [okEls, AV.cells] at okA
  have hle : (p.length : Int) ≤ (p.length : Int) := Int.le_refl _
  have hbe : (p.length == p.length) = true := by simp
  unfold stepU at h
  have Happ := Lib.hid happ
  have Hc := Lib.hid hc
  have Hsc := Lib.hid hsc
  have Hrec := Lib.hid hrec
  have H := Lib.hid h
  clear hp hb happ hc hrec h hl3 hr hpb hsc
  refine enter Tryz.func88 rfl (by decide +kernel) (by rw [Tryz.ntmps88]; simp) (by rw [Tryz.ntmps88]; decide) (fun hO => ?_); rw [Tryz.ntmps88]
  repeat' first | refine st ?_ | (refine ca ?_; first | apply hri) | (refine br ?_ ?_; all_goals (intro hb; try simp only [Bool.not_eq_true', Bool.not_eq_false'] at hb)) | fail
  rw [Happ.out]
  refine x_mark S.length (by (simp only [go_sem, *]; try rfl)) ?_
  try simp only [go_sem, *]
  have h012 := kind_012 (p ++ [b])
  obtain ⟨kd, hkd⟩ : ∃ kd, kindU (p ++ [b]) = kd := ⟨_, rfl⟩
  rw [hkd] at hk h012
  rcases h012 with rfl | rfl | rfl
  · have hh := H.out
    rw [hkd, if_neg (by decide), if_neg (by decide)] at hh
    have hk : ∀ S' (R : AOut → List Blk → Prop), R (.ret (.tup [.bool false, .bool false])) S' → ACall Tryz.prog w0 116 [.sval false (List.map By (p ++ [b]))] S' R := hk
    clear hkd
    by_cases hp : p = []
    · subst hp
      rw [if_pos rfl] at hh
      have e0 : (((0 : Nat) : Int) == 0) = true := rfl
      unfold stepV at hh
      simp only [List.map_cons, List.map_nil, Co] at hh
      repeat' first | refine st ?_ | (refine ca ?_; first | apply hk) | (refine br ?_ ?_; all_goals (intro hb; try simp only [Bool.not_eq_true', Bool.not_eq_false'] at hb)) | fail
      (apply f_ret; iterate 7 (· simp only [go_sem, *, Tryz.results88]; try rfl))
      exact hh
    · rw [if_neg hp] at hh
      have hrec := Hrec.out hp
      have hl0 : ((p.length : Int) == 0) = false := by
        rw [beq_eq_false_iff_ne]
        intro e
        exact hp (List.length_eq_zero_iff.1 (by omega))
      have hq1 : (step1 b).2.length ≤ 1 := by unfold step1; split <;> (try split) <;> simp
      generalize step1 b = q at hrec hh hq1
      obtain ⟨q1, q2⟩ := q
      unfold stepV at hh hrec
      simp only [List.map_cons, Co] at hh hrec hq1
      have okC := Co.ok q2
      simp only [okEls, AV.cells] at okC
      have hb8 : (1 + q2.length) * 8 ≤ 140737488355328 := by omega
      clear hp hq1
      repeat' first | refine st ?_ | (refine ca ?_; first | apply hk | apply hrec) | (refine br ?_ ?_; all_goals (intro hb; try simp only [Bool.not_eq_true', Bool.not_eq_false'] at hb)) | fail
      have hcm : (1 + q2.length = q2.length + 1) = True := by rw [Nat.add_comm]; simp
      (apply f_ret; iterate 7 (· simp only [go_sem, *, Tryz.results88]; try rfl))
      exact hh
  · have hh := H.out
    rw [hkd, if_neg (by decide), if_pos rfl] at hh
    have hk : ∀ S' (R : AOut → List Blk → Prop), R (.ret (.tup [.bool true, .bool false])) S' → ACall Tryz.prog w0 116 [.sval false (List.map By (p ++ [b]))] S' R := hk
    unfold stepV at hh
    simp only [List.map_nil] at hh
    clear hkd
    repeat' first | refine st ?_ | (refine ca ?_; first | apply hk) | (refine br ?_ ?_; all_goals (intro hb; try simp only [Bool.not_eq_true', Bool.not_eq_false'] at hb)) | fail
    (apply f_ret; iterate 7 (· simp only [go_sem, *, Tryz.results88]; try rfl))
    exact hh
  · have hh := H.out
    rw [hkd, if_pos rfl] at hh
    have hk : ∀ S' (R : AOut → List Blk → Prop), R (.ret (.tup [.bool true, .bool true])) S' → ACall Tryz.prog w0 116 [.sval false (List.map By (p ++ [b]))] S' R := hk
    have hc := Hc.out
    have hsc := Hsc.out hkd
    rw [← hsc] at hh
    generalize spanR (p ++ [b]) = q at hc hh hsc
    obtain ⟨q1, q2, q3⟩ := q
    unfold stepV at hh
    unfold spanV at hc
    simp only [List.map_cons, List.map_nil, Co] at hh hc
    clear hkd hsc
    repeat' first | refine st ?_ | (refine ca ?_; first | apply hk | apply hc) | (refine br ?_ ?_; all_goals (intro hb; try simp only [Bool.not_eq_true', Bool.not_eq_false'] at hb)) | fail
    (apply f_ret; iterate 7 (· simp only [go_sem, *, Tryz.results88]; try rfl))
    exact hh
end Go.Proofs.YtfnnjkbhmoomjaaGreatDoor
namespace Go.Proofs.YtfnnjkbhmoomjaaGreatDoor
open Go Go.Fen
set_option linter.unusedSimpArgs false
set_option linter.unusedVariables false
attribute [local irreducible] RunX WP ACall AnyP OpA ProtL afterCall afterOp
set_option maxRecDepth 8000
theorem rStep1 (w0 : World) (S : List Blk) (b : Nat) (hb : b < 256) (R : AOut → List Blk → Prop) (h : R (.ret (stepV (step1 b))) S) : ACall Tryz.prog w0 88 [.sval false [], .int .u8 b] S R := by
  refine rStepG w0 S [] b hb rfl (by simp) (fun hh => absurd rfl hh) R ?_
  have e : stepU [] b = step1 b := by unfold stepU step1; simp
  rw [e]; exact h
theorem rStep (w0 : World) (S : List Blk) (p : List Nat) (b : Nat) (hb : b < 256) (hr : rightU p = true) (hp : ∀ x ∈ p, x < 256) (R : AOut → List Blk → Prop) (h : R (.ret (stepV (stepU p b))) S) :
    ACall Tryz.prog w0 88 [.sval false (p.map By), .int .u8 b] S R :=
  rStepG w0 S p b hb hr hp (fun _ S' R h => rStep1 w0 S' b hb R h) R h
theorem st_len (l : List Nat) : (stU l).2.length ≤ 2 * l.length + 1 := by
  have h := (codesF_lt l []).2
  have e : codesF [] l = (stU l).2 ++ flushU (stU l).1 := codes_st l
  rw [e, List.length_append] at h
  omega
set_option maxHeartbeats 4000000 in
theorem rCodes (w0 : World) (S : List Blk) (s : List UInt8) (hs : s.length ≤ 100000000) (R : AOut → List Blk → Prop) (h : R (.ret (.sval false ((codesB s).map Co))) S) : ACall Tryz.prog w0 56 [.str s] S R := by
  have hsm : ∀ b ∈ s.map UInt8.toNat, b < 256 := by
    intro b hb
    obtain ⟨c, _, rfl⟩ := List.mem_map.1 hb
    exact c.toNat_lt
  have hall := st_ok (s.map UInt8.toNat) hsm
  have hcb : codesB s = (stU (s.map UInt8.toNat)).2 ++ flushU (stU (s.map UInt8.toNat)).1 := codes_st _
  have Hall := Lib.hid hall
  have Hcb := Lib.hid hcb
  clear hall hcb hsm
  refine enter Tryz.func56 rfl (by decide +kernel) (by rw [Tryz.ntmps56]; simp) (by rw [Tryz.ntmps56]; decide) (fun hO => ?_); rw [Tryz.ntmps56]
  repeat' first | refine st ?_ | (refine br ?_ ?_; all_goals (intro hb; try simp only [Bool.not_eq_true', Bool.not_eq_false'] at hb)) | fail
  refine x_thaw (t := 3) 3 1 (by (simp only [go_sem, *]; try rfl)) (by decide) ?_
  refine x_soft (t := 4) (by (simp only [go_sem, *]; try rfl)) ?_
  try simp only [go_sem, *]
  refine x_ind (fun (i : Nat) env S' => i ≤ s.length ∧ env 1000000 = .dfr [] ∧ env 0 = .str s ∧ env 3 = .sown S.length i (stU ((s.map UInt8.toNat).take i)).2.length ∧ env 4 = .sval false ((stU ((s.map UInt8.toNat).take i)).1.map By) ∧ env 5 = .int .i64 (i : Int) ∧
    S' = S ++ [.arr 3 1 0 i ((stU ((s.map UInt8.toNat).take i)).2.map Co)]) (fun i => s.length - i) 0 ?_ ?_
  · exact ⟨Nat.zero_le _, by (simp only [go_sem, *]; try rfl), by (simp only [go_sem, *]; try rfl), by (simp only [go_sem, *]; try rfl), by (simp only [go_sem, *]; try rfl), by (simp only [go_sem, *]; try rfl), rfl⟩
  · rintro i env S' ⟨hi, e0, f0, f3, f4, f5, rfl⟩ IH
    have HI := Lib.hid IH
    have H := Lib.hid h
    clear IH h
    obtain ⟨hri, hpb⟩ := Hall.out i
    have hsl := st_len ((s.map UInt8.toNat).take i)
    have htl : ((s.map UInt8.toNat).take i).length ≤ i := List.length_take_le _ _
    by_cases hlt : i < s.length
    · obtain ⟨c, hx⟩ : ∃ c, s[i]? = some c := ⟨_, List.getElem?_eq_getElem hlt⟩
      have hct : c.toNat < 256 := c.toNat_lt
      have hxn : (s.map UInt8.toNat)[i]? = some c.toNat := by rw [List.getElem?_map, hx]; rfl
      have hsucc := st_succ hxn
      have hst := fun S' => rStep w0 S' (stU ((s.map UInt8.toNat).take i)).1 c.toNat hct hri hpb
      have hcl := (step_codes (stU ((s.map UInt8.toNat).take i)).1 c.toNat).2
      generalize stU ((s.map UInt8.toNat).take i) = q at *
      obtain ⟨p, o⟩ := q
      simp only at hst hsucc hcl f3 f4 hsl hri hpb ⊢
      generalize stepU p c.toNat = r at hst hsucc hcl
      obtain ⟨p', o'⟩ := r
      unfold stepV at hst
      simp only at hst hsucc hcl
      have h1 : decide ((i : Int) < (s.length : Int)) = true := by simpa using hlt
      have hw1 : IntKind.i64.wrap ((i : Int) + 1) = (i : Int) + 1 := IntWalk.i64_in _ (by omega)
      have hb8 : (o.length + o'.length) * 8 ≤ 140737488355328 := by omega
      have okC := Co.ok o'
      simp only [okEls, AV.cells] at okC
      have Hsucc := Lib.hid hsucc
      have Hlt := Lib.hid hlt
      have hlen : (o.map Co).length = o.length := by simp
      clear hi hs hct hxn hcl hri hpb hsucc hsl htl hlt
      repeat' first | refine st ?_ | (refine ca ?_; first | apply hst) | (refine br ?_ ?_; all_goals (intro hb; try simp only [Bool.not_eq_true', Bool.not_eq_false'] at hb)) | fail
      refine x_keep hO 1 [0, 3, 4, 5] rfl (by (simp only [go_sem, *]; try rfl)) (by (simp only [go_sem, *]; try rfl)) (by (simp only [go_sem, *]; try rfl)) ?_
      simp only [List.take_succ_cons, List.take_zero]
      refine HI.out (i + 1) _ _ (by have := Hlt.out; omega) ⟨Hlt.out, ?_, ?_, ?_, ?_, ?_, ?_⟩
      · (simp only [go_sem, *]; try rfl)
      · (simp only [go_sem, *]; try rfl)
      · rw [Hsucc.out, List.length_append]; first | done | (simp only [go_sem, *]; try rfl)
      · rw [Hsucc.out]; first | done | (simp only [go_sem, *]; try rfl)
      · (simp only [go_sem, *]; try rfl)
      · rw [Hsucc.out, List.map_append]; first | done | rfl
    · have hie : i = s.length := by omega
      subst hie
      have htk : (s.map UInt8.toNat).take s.length = s.map UInt8.toNat := by rw [← List.length_map (f := UInt8.toNat), List.take_length]
      rw [htk] at hri hpb hsl f3 f4 ⊢
      have hfl := fun S' => rFlush w0 S' (stU (s.map UInt8.toNat)).1 hpb hri
      have hcb := Hcb.out
      have hf1 : (flushU (stU (s.map UInt8.toNat)).1).length ≤ 1 := by unfold flushU; split <;> simp
      generalize stU (s.map UInt8.toNat) = q at *
      obtain ⟨p, o⟩ := q
      simp only at hfl hcb f3 f4 hsl hri hpb hf1 ⊢
      generalize flushU p = fl at hfl hcb hf1
      have h1 : decide ((s.length : Int) < (s.length : Int)) = false := by simp
      have hml : (s.map UInt8.toNat).length = s.length := by simp
      have hb8 : (o.length + fl.length) * 8 ≤ 140737488355328 := by omega
      have okC := Co.ok fl
      simp only [okEls, AV.cells] at okC
      have hlen : (o.map Co).length = o.length := by simp
      have hh := H.out
      rw [hcb] at hh
      clear hi hs hri hpb hsl htl hlt hf1 htk hcb hml
      repeat' first | refine st ?_ | (refine ca ?_; first | apply hfl) | (refine br ?_ ?_; all_goals (intro hb; try simp only [Bool.not_eq_true', Bool.not_eq_false'] at hb)) | fail
      rw [← List.map_append]
      have hln : (o ++ fl).length = o.length + fl.length := List.length_append
      (apply f_ret; iterate 7 (· simp only [go_sem, *, Tryz.results56]; try rfl))
      exact hh
end Go.Proofs.YtfnnjkbhmoomjaaGreatDoor
namespace Go.Proofs.YtfnnjkbhmoomjaaGreatDoor
open Go Go.Fen
set_option linter.unusedSimpArgs false
set_option linter.unusedVariables false
attribute [local irreducible] RunX WP ACall AnyP OpA ProtL afterCall afterOp
set_option maxRecDepth 8000
def sizeN (cp : Nat) : Nat := if cp < 128 then 1 else if cp < 2048 then 2 else if cp < 65536 then 3 else 4
theorem rCheck (w0 : World) (S : List Blk) (cp : Nat) (R : AOut → List Blk → Prop) (h : R (.ret (.bool (okU cp))) S) : ACall Tryz.prog w0 39 [.int .i64 cp] S R := by
  have d0 : decide ((0 : Int) ≤ (cp : Int)) = true := by simp
  by_cases c1 : cp ≤ 1114111
  · have d1 : decide ((cp : Int) ≤ 1114111) = true := by simp; omega
    by_cases c2 : cp < 55296
    · have d2 : decide ((cp : Int) < 55296) = true := by simp; omega
      have e : okU cp = true := by unfold okU; simp; omega
      rw [e] at h
      clear e c1 c2
      refine enter Tryz.func39 rfl (by decide +kernel) (by rw [Tryz.ntmps39]; simp) (by rw [Tryz.ntmps39]; decide) (fun hO => ?_); rw [Tryz.ntmps39]
      repeat' first | refine st ?_ | (refine br ?_ ?_; all_goals (intro hb; try simp only [Bool.not_eq_true', Bool.not_eq_false'] at hb)) | fail
      (apply f_ret; iterate 7 (· simp only [go_sem, *, Tryz.results39]; try rfl))
      exact h
    · have d2 : decide ((cp : Int) < 55296) = false := by simp; omega
      by_cases c3 : 57343 < cp
      · have d3 : decide ((57343 : Int) < (cp : Int)) = true := by simp; omega
        have e : okU cp = true := by unfold okU; simp; omega
        rw [e] at h
        clear e c1 c2 c3
        refine enter Tryz.func39 rfl (by decide +kernel) (by rw [Tryz.ntmps39]; simp) (by rw [Tryz.ntmps39]; decide) (fun hO => ?_); rw [Tryz.ntmps39]
        repeat' first | refine st ?_ | (refine br ?_ ?_; all_goals (intro hb; try simp only [Bool.not_eq_true', Bool.not_eq_false'] at hb)) | fail
        (apply f_ret; iterate 7 (· simp only [go_sem, *, Tryz.results39]; try rfl))
        exact h
      · have d3 : decide ((57343 : Int) < (cp : Int)) = false := by simp; omega
        have e : okU cp = false := by unfold okU; simp; omega
        rw [e] at h
        clear e c1 c2 c3
        refine enter Tryz.func39 rfl (by decide +kernel) (by rw [Tryz.ntmps39]; simp) (by rw [Tryz.ntmps39]; decide) (fun hO => ?_); rw [Tryz.ntmps39]
        repeat' first | refine st ?_ | (refine br ?_ ?_; all_goals (intro hb; try simp only [Bool.not_eq_true', Bool.not_eq_false'] at hb)) | fail
        (apply f_ret; iterate 7 (· simp only [go_sem, *, Tryz.results39]; try rfl))
        exact h
  · have d1 : decide ((cp : Int) ≤ 1114111) = false := by simp; omega
    have e : okU cp = false := by unfold okU; simp; omega
    rw [e] at h
    clear e c1
    refine enter Tryz.func39 rfl (by decide +kernel) (by rw [Tryz.ntmps39]; simp) (by rw [Tryz.ntmps39]; decide) (fun hO => ?_); rw [Tryz.ntmps39]
    repeat' first | refine st ?_ | (refine br ?_ ?_; all_goals (intro hb; try simp only [Bool.not_eq_true', Bool.not_eq_false'] at hb)) | fail
    (apply f_ret; iterate 7 (· simp only [go_sem, *, Tryz.results39]; try rfl))
    exact h
theorem rSize (w0 : World) (S : List Blk) (cp : Nat) (R : AOut → List Blk → Prop) (h : R (.ret (.int .i64 (sizeN cp : Nat))) S) : ACall Tryz.prog w0 72 [.int .i64 cp] S R := by
  by_cases c1 : cp < 128
  · have d1 : decide ((cp : Int) < 128) = true := by simp; omega
    have e : sizeN cp = 1 := by unfold sizeN; rw [if_pos c1]
    rw [e] at h
    have h : R (.ret (.int .i64 1)) S := h
    clear e c1
    refine enter Tryz.func72 rfl (by decide +kernel) (by rw [Tryz.ntmps72]; simp) (by rw [Tryz.ntmps72]; decide) (fun hO => ?_); rw [Tryz.ntmps72]
    repeat' first | refine st ?_ | (refine br ?_ ?_; all_goals (intro hb; try simp only [Bool.not_eq_true', Bool.not_eq_false'] at hb)) | fail
    (apply f_ret; iterate 7 (· simp only [go_sem, *, Tryz.results72]; try rfl))
    exact h
  have d1 : decide ((cp : Int) < 128) = false := by simp; omega
  by_cases c2 : cp < 2048
  · have d2 : decide ((cp : Int) < 2048) = true := by simp; omega
    have e : sizeN cp = 2 := by unfold sizeN; rw [if_neg c1, if_pos c2]
    rw [e] at h
    have h : R (.ret (.int .i64 2)) S := h
    clear e c1 c2
    refine enter Tryz.func72 rfl (by decide +kernel) (by rw [Tryz.ntmps72]; simp) (by rw [Tryz.ntmps72]; decide) (fun hO => ?_); rw [Tryz.ntmps72]
    repeat' first | refine st ?_ | (refine br ?_ ?_; all_goals (intro hb; try simp only [Bool.not_eq_true', Bool.not_eq_false'] at hb)) | fail
    (apply f_ret; iterate 7 (· simp only [go_sem, *, Tryz.results72]; try rfl))
    exact h
  have d2 : decide ((cp : Int) < 2048) = false := by simp; omega
  by_cases c3 : cp < 65536
  · have d3 : decide ((cp : Int) < 65536) = true := by simp; omega
    have e : sizeN cp = 3 := by unfold sizeN; rw [if_neg c1, if_neg c2, if_pos c3]
    rw [e] at h
    have h : R (.ret (.int .i64 3)) S := h
    clear e c1 c2 c3
    refine enter Tryz.func72 rfl (by decide +kernel) (by rw [Tryz.ntmps72]; simp) (by rw [Tryz.ntmps72]; decide) (fun hO => ?_); rw [Tryz.ntmps72]
    repeat' first | refine st ?_ | (refine br ?_ ?_; all_goals (intro hb; try simp only [Bool.not_eq_true', Bool.not_eq_false'] at hb)) | fail
    (apply f_ret; iterate 7 (· simp only [go_sem, *, Tryz.results72]; try rfl))
    exact h
  have d3 : decide ((cp : Int) < 65536) = false := by simp; omega
  have e : sizeN cp = 4 := by unfold sizeN; rw [if_neg c1, if_neg c2, if_neg c3]
  rw [e] at h
  have h : R (.ret (.int .i64 4)) S := h
  clear e c1 c2 c3
  refine enter Tryz.func72 rfl (by decide +kernel) (by rw [Tryz.ntmps72]; simp) (by rw [Tryz.ntmps72]; decide) (fun hO => ?_); rw [Tryz.ntmps72]
  repeat' first | refine st ?_ | (refine br ?_ ?_; all_goals (intro hb; try simp only [Bool.not_eq_true', Bool.not_eq_false'] at hb)) | fail
  (apply f_ret; iterate 7 (· simp only [go_sem, *, Tryz.results72]; try rfl))
  exact h
theorem tm64 (c : Nat) : (c : Int).tmod 64 = ((c % 64 : Nat) : Int) := by rw [Int.tmod_eq_emod_of_nonneg (by omega)]; omega
theorem td64 (c : Nat) (h : c < 4294967296) : IntKind.i64.wrap ((c : Int).tdiv 64) = ((c / 64 : Nat) : Int) := by
  rw [Int.tdiv_eq_ediv_of_nonneg (by omega), IntWalk.i64_in _ (by omega)]; omega
theorem wb64 (c : Nat) : IntKind.i64.wrap (128 + ((c % 64 : Nat) : Int)) = ((128 + c % 64 : Nat) : Int) := by rw [IntWalk.i64_in _ (by omega)]; omega
theorem wu64 (c : Nat) : IntKind.u8.wrap ((128 + c % 64 : Nat) : Int) = ((128 + c % 64 : Nat) : Int) := IntWalk.u8_in _ (by omega)
set_option maxHeartbeats 4000000 in
theorem rPut (w0 : World) (S : List Blk) (cp : Nat) (hb : cp < 4294967296) (R : AOut → List Blk → Prop) (h : R (.ret (.str (putS cp))) S) : ACall Tryz.prog w0 40 [.int .i64 cp] S R := by
  have hck := fun S' => rCheck w0 S' cp
  unfold putS putU at h
  cases hok : okU cp with
  | false =>
    rw [hok, if_neg (by decide)] at h
    rw [hok] at hck
    have h : R (.ret (.str [239, 191, 189])) S := h
    have hsz : ∀ S' (R : AOut → List Blk → Prop), R (.ret (.int .i64 3)) S' → ACall Tryz.prog w0 72 [.int .i64 65533] S' R := fun S' R hr => rSize w0 S' 65533 R hr
    have z1 : (65533 : Int).tmod 64 = 61 := by decide
    have z2 : IntKind.i64.wrap ((65533 : Int).tdiv 64) = 1023 := by decide
    have z3 : (1023 : Int).tmod 64 = 63 := by decide
    have z4 : IntKind.i64.wrap ((1023 : Int).tdiv 64) = 15 := by decide
    clear hb hok
    refine enter Tryz.func40 rfl (by decide +kernel) (by rw [Tryz.ntmps40]; simp) (by rw [Tryz.ntmps40]; decide) (fun hO => ?_); rw [Tryz.ntmps40]
    repeat' first | refine st ?_ | (refine ca ?_; first | apply hck | apply hsz) | (refine br ?_ ?_; all_goals (intro hb; try simp only [Bool.not_eq_true', Bool.not_eq_false'] at hb)) | apply x_loop | apply x_lp | fail
    (apply f_ret; iterate 7 (· simp only [go_sem, *, Tryz.results40]; try rfl))
    exact h
  | true =>
    rw [hok, if_pos rfl] at h
    rw [hok] at hck
    have hle : cp ≤ 1114111 := by
      simp only [okU, Bool.and_eq_true, decide_eq_true_eq] at hok
      exact hok.1
    have hsz := fun S' => rSize w0 S' cp
    have t0 := tm64 cp
    have t1 := tm64 (cp / 64)
    have t2 := tm64 (cp / 64 / 64)
    have q0 := td64 cp hb
    have q1 := td64 (cp / 64) (by omega)
    have q2 := td64 (cp / 64 / 64) (by omega)
    have b0 := wb64 cp
    have b1 := wb64 (cp / 64)
    have b2 := wb64 (cp / 64 / 64)
    have u0 := wu64 cp
    have u1 := wu64 (cp / 64)
    have u2 := wu64 (cp / 64 / 64)
    clear hok hb
    unfold sizeN at hsz
    by_cases h1 : cp < 128
    · have e : putN cp = [cp] := by unfold putN; rw [if_pos h1]
      rw [e] at h
      rw [if_pos h1] at hsz
      have hsz : ∀ S' (R : AOut → List Blk → Prop), R (.ret (.int .i64 1)) S' → ACall Tryz.prog w0 72 [.int .i64 cp] S' R := hsz
      have wc : IntKind.u8.wrap (cp : Int) = (cp : Int) := IntWalk.u8_in _ (by omega)
      have h : R (.ret (.str [UInt8.ofNat cp])) S := h
      clear e h1 hle t0 t1 t2 q0 q1 q2 b0 b1 b2 u0 u1 u2
      refine enter Tryz.func40 rfl (by decide +kernel) (by rw [Tryz.ntmps40]; simp) (by rw [Tryz.ntmps40]; decide) (fun hO => ?_); rw [Tryz.ntmps40]
      repeat' first | refine st ?_ | (refine ca ?_; first | apply hck | apply hsz) | (refine br ?_ ?_; all_goals (intro hb; try simp only [Bool.not_eq_true', Bool.not_eq_false'] at hb)) | fail
      (apply f_ret; iterate 7 (· simp only [go_sem, *, Tryz.results40]; try rfl))
      exact h
    by_cases h2 : cp < 2048
    · have e : putN cp = [192 + cp / 64, 128 + cp % 64] := by unfold putN; rw [if_neg h1, if_pos h2]; try simp only [Nat.div_div_eq_div_mul, Nat.reduceMul]
      rw [e] at h
      rw [if_neg h1, if_pos h2] at hsz
      have hsz : ∀ S' (R : AOut → List Blk → Prop), R (.ret (.int .i64 2)) S' → ACall Tryz.prog w0 72 [.int .i64 cp] S' R := hsz
      obtain ⟨tp, htp⟩ : ∃ tp, cp / 64 = tp := ⟨_, rfl⟩
      have wt : IntKind.i64.wrap (192 + (tp : Int)) = ((192 + tp : Nat) : Int) := by rw [IntWalk.i64_in _ (by omega)]; omega
      have wu : IntKind.u8.wrap ((192 + tp : Nat) : Int) = ((192 + tp : Nat) : Int) := IntWalk.u8_in _ (by omega)
      rw [htp] at q0 h
      have h : R (.ret (.str [UInt8.ofNat (192 + tp), UInt8.ofNat (128 + cp % 64)])) S := h
      clear e hle htp h1 h2 t1 t2 q1 q2 b1 b2 u1 u2
      refine enter Tryz.func40 rfl (by decide +kernel) (by rw [Tryz.ntmps40]; simp) (by rw [Tryz.ntmps40]; decide) (fun hO => ?_); rw [Tryz.ntmps40]
      repeat' first | refine st ?_ | (refine ca ?_; first | apply hck | apply hsz) | (refine br ?_ ?_; all_goals (intro hb; try simp only [Bool.not_eq_true', Bool.not_eq_false'] at hb)) | apply x_loop | apply x_lp | fail
      (apply f_ret; iterate 7 (· simp only [go_sem, *, Tryz.results40]; try rfl))
      exact h
    by_cases h3 : cp < 65536
    · have e : putN cp = [224 + cp / 64 / 64, 128 + cp / 64 % 64, 128 + cp % 64] := by unfold putN; rw [if_neg h1, if_neg h2, if_pos h3]; try simp only [Nat.div_div_eq_div_mul, Nat.reduceMul]
      rw [e] at h
      rw [if_neg h1, if_neg h2, if_pos h3] at hsz
      have hsz : ∀ S' (R : AOut → List Blk → Prop), R (.ret (.int .i64 3)) S' → ACall Tryz.prog w0 72 [.int .i64 cp] S' R := hsz
      obtain ⟨tp, htp⟩ : ∃ tp, cp / 64 / 64 = tp := ⟨_, rfl⟩
      have wt : IntKind.i64.wrap (224 + (tp : Int)) = ((224 + tp : Nat) : Int) := by rw [IntWalk.i64_in _ (by omega)]; omega
      have wu : IntKind.u8.wrap ((224 + tp : Nat) : Int) = ((224 + tp : Nat) : Int) := IntWalk.u8_in _ (by omega)
      rw [htp] at q1 h
      have h : R (.ret (.str [UInt8.ofNat (224 + tp), UInt8.ofNat (128 + cp / 64 % 64), UInt8.ofNat (128 + cp % 64)])) S := h
      clear e hle htp h1 h2 h3 t2 q2 b2 u2
      refine enter Tryz.func40 rfl (by decide +kernel) (by rw [Tryz.ntmps40]; simp) (by rw [Tryz.ntmps40]; decide) (fun hO => ?_); rw [Tryz.ntmps40]
      repeat' first | refine st ?_ | (refine ca ?_; first | apply hck | apply hsz) | (refine br ?_ ?_; all_goals (intro hb; try simp only [Bool.not_eq_true', Bool.not_eq_false'] at hb)) | apply x_loop | apply x_lp | fail
      (apply f_ret; iterate 7 (· simp only [go_sem, *, Tryz.results40]; try rfl))
      exact h
    have e : putN cp = [240 + cp / 64 / 64 / 64, 128 + cp / 64 / 64 % 64, 128 + cp / 64 % 64, 128 + cp % 64] := by unfold putN; rw [if_neg h1, if_neg h2, if_neg h3]; try simp only [Nat.div_div_eq_div_mul, Nat.reduceMul]
    rw [e] at h
    rw [if_neg h1, if_neg h2, if_neg h3] at hsz
    have hsz : ∀ S' (R : AOut → List Blk → Prop), R (.ret (.int .i64 4)) S' → ACall Tryz.prog w0 72 [.int .i64 cp] S' R := hsz
    obtain ⟨tp, htp⟩ : ∃ tp, cp / 64 / 64 / 64 = tp := ⟨_, rfl⟩
    have wt : IntKind.i64.wrap (240 + (tp : Int)) = ((240 + tp : Nat) : Int) := by rw [IntWalk.i64_in _ (by omega)]; omega
    have wu : IntKind.u8.wrap ((240 + tp : Nat) : Int) = ((240 + tp : Nat) : Int) := IntWalk.u8_in _ (by omega)
    rw [htp] at q2 h
    have h : R (.ret (.str [UInt8.ofNat (240 + tp), UInt8.ofNat (128 + cp / 64 / 64 % 64), UInt8.ofNat (128 + cp / 64 % 64), UInt8.ofNat (128 + cp % 64)])) S := h
    clear e hle htp h1 h2 h3
    refine enter Tryz.func40 rfl (by decide +kernel) (by rw [Tryz.ntmps40]; simp) (by rw [Tryz.ntmps40]; decide) (fun hO => ?_); rw [Tryz.ntmps40]
    repeat' first | refine st ?_ | (refine ca ?_; first | apply hck | apply hsz) | (refine br ?_ ?_; all_goals (intro hb; try simp only [Bool.not_eq_true', Bool.not_eq_false'] at hb)) | apply x_loop | apply x_lp | fail
    (apply f_ret; iterate 7 (· simp only [go_sem, *, Tryz.results40]; try rfl))
    exact h
end Go.Proofs.YtfnnjkbhmoomjaaGreatDoor
namespace Go.Proofs.YtfnnjkbhmoomjaaGreatDoor
open Go Go.Fen
set_option linter.unusedSimpArgs false
set_option linter.unusedVariables false
attribute [local irreducible] RunX WP ACall AnyP OpA ProtL afterCall afterOp
set_option maxRecDepth 8000
set_option maxHeartbeats 1000000 in
theorem rText (w0 : World) (S : List Blk) (l : List Nat) (hb : ∀ c ∈ l, c < 4294967296) (hl : l.length ≤ 100000000) (R : AOut → List Blk → Prop) (h : R (.ret (.str (textS l))) S) : ACall Tryz.prog w0 57 [.sval false (l.map Co)] S R := by
  refine enter Tryz.func57 rfl (by decide +kernel) (by rw [Tryz.ntmps57]; simp) (by rw [Tryz.ntmps57]; decide) (fun hO => ?_); rw [Tryz.ntmps57]
  repeat' first | refine st ?_ | (refine br ?_ ?_; all_goals (intro hb; try simp only [Bool.not_eq_true', Bool.not_eq_false'] at hb)) | fail
  refine x_ind (fun (i : Nat) env S' => i ≤ l.length ∧ env 1000000 = .dfr [] ∧ env 0 = .sval false (l.map Co) ∧ env 3 = .str (textS (l.take i)) ∧ env 4 = .int .i64 (i : Int) ∧ S' = S) (fun i => l.length - i) 0 ?_ ?_
  · exact ⟨Nat.zero_le _, by (simp only [go_sem, *]; try rfl), by (simp only [go_sem, *]; try rfl), by (simp only [go_sem, *]; try rfl), by (simp only [go_sem, *]; try rfl), by (simp only [go_sem, *]; try rfl)⟩
  · rintro i env S' ⟨hi, e0, f0, f3, f4, rfl⟩ IH
    have HI := Lib.hid IH
    have H := Lib.hid h
    clear IH h
    by_cases hlt : i < l.length
    · obtain ⟨c, hx⟩ : ∃ c, l[i]? = some c := ⟨_, List.getElem?_eq_getElem hlt⟩
      have hp := fun S' => rPut w0 S' c (hb c (List.mem_of_getElem? hx))
      have hsucc := textS_succ hx
      have hp1 := putS_len c
      have h1 : decide ((i : Int) < (l.length : Int)) = true := by simpa using hlt
      have hw1 : IntKind.i64.wrap ((i : Int) + 1) = (i : Int) + 1 := IntWalk.i64_in _ (by omega)
      have hlm := textS_len (l.take i)
      have hlt2 : (l.take i).length ≤ i := List.length_take_le _ _
      generalize textS (l.take i) = tx at f3 hsucc hlm
      generalize putS c = pc at hp hsucc hp1
      have hbl : tx.length + pc.length ≤ 9223372036854775807 := by omega
      have Hlt := Lib.hid hlt
      have Hsucc := Lib.hid hsucc
      clear hb hlt hi hl hlm hlt2 hp1 hsucc
      repeat' first | apply x_seq | apply x_skip | apply x_block | apply x_exit | apply x_ret | apply x_ops_nil | apply p_blk | apply p_exit_it | apply p_exit_hit | apply p_ret_it | apply p_ret_blk | apply p_panic_it | apply p_panic_blk | apply p_end | (apply p_exit_miss; (· rfl)) | (apply x_region; simp only [List.toList_toArray]) | (apply x_step0; (· rfl); (· simp only [go_sem, *, Co]; try rfl); (· rfl); simp only [putA]) | (apply ac_ret; simp only [putA]) | apply ac_panic | (apply x_callA []; (· simp only [go_sem, *, Co]; try rfl); (· rfl); (· simp only [go_sem, *, Co]; try rfl); (· rfl); (iterate 2 (· simp only [go_sem, *, Co]; try rfl)); (first | apply hp); simp only [afterCall, putA]) | (apply x_panic; (· simp only [go_sem, *, Co]; try rfl); (· rfl); (· simp only [go_sem, *, Co]; try rfl)) | (apply x_step; (iterate 2 (· simp only [go_sem, *, Co]; try rfl)); (· rfl); simp only [putA]) | (apply x_unwanted; (· simp only [go_sem, *, Co]; try rfl); (· rfl); simp only [putA]) | (apply x_condT; (· simp only [go_sem, *, Co]; try rfl)) | (apply x_condF; (· simp only [go_sem, *, Co]; try rfl)) | (apply x_guardS; (· rfl); (fail_if_success (focus (show _ = some true; (· simp only [go_sem, *, Co]; try rfl)))); (· simp only [go_sem, *, Co]; try rfl); all_goals (intro hb; try simp only [Bool.not_eq_true', Bool.not_eq_false'] at hb)) | (apply x_condS; (· simp only [go_sem, *, Co]; try rfl); all_goals (intro hb; try simp only [Bool.not_eq_true', Bool.not_eq_false'] at hb)) | fail
      refine HI.out (i + 1) _ _ (by have := Hlt.out; omega) ⟨Hlt.out, ?_, ?_, ?_, ?_, ?_⟩
      · (simp only [go_sem, *]; try rfl)
      · (simp only [go_sem, *]; try rfl)
      · rw [Hsucc.out]; (simp only [go_sem, *]; try rfl)
      · (simp only [go_sem, *]; try rfl)
      · (simp only [go_sem, *]; try rfl)
    · have hie : i = l.length := by omega
      subst hie
      rw [List.take_length] at f3
      have h1 : decide ((l.length : Int) < (l.length : Int)) = false := by simp
      clear hb hlt hi hl
      have h := H.out
      repeat' first | refine st ?_ | (refine br ?_ ?_; all_goals (intro hb; try simp only [Bool.not_eq_true', Bool.not_eq_false'] at hb)) | fail
      (apply f_ret; iterate 7 (· simp only [go_sem, *, Tryz.results57]; try rfl))
      exact h
end Go.Proofs.YtfnnjkbhmoomjaaGreatDoor
namespace Go.Proofs.YtfnnjkbhmoomjaaGreatDoor
open Go Go.Fen
set_option linter.unusedSimpArgs false
set_option linter.unusedVariables false
attribute [local irreducible] RunX WP ACall AnyP OpA ProtL afterCall afterOp
set_option maxRecDepth 8000
def encV : List Nat → List Nat
  | [] => []
  | [a] => [a / 4, a % 4 * 16]
  | [a, b] => [a / 4, a % 4 * 16 + b / 16, b % 16 * 4]
  | a :: b :: c :: r => a / 4 :: (a % 4 * 16 + b / 16) :: (b % 16 * 4 + c / 64) :: c % 64 :: encV r
structure EncS where
  out : List Nat
  wait : Nat
  rest : Nat
def encStep (q : EncS) (c : Nat) : EncS :=
  if q.wait = 0 then ⟨q.out ++ [(q.rest * 256 + c) / 4], 2, (q.rest * 256 + c) % 4⟩
  else if q.wait = 2 then ⟨q.out ++ [(q.rest * 256 + c) / 16], 4, (q.rest * 256 + c) % 16⟩
  else ⟨q.out ++ [(q.rest * 256 + c) / 64, (q.rest * 256 + c) % 64], 0, 0⟩
def encEnd (q : EncS) : List Nat := if q.wait = 0 then q.out else if q.wait = 2 then q.out ++ [q.rest * 16] else q.out ++ [q.rest * 4]
def encP (s : List Nat) : EncS := s.foldl encStep ⟨[], 0, 0⟩
theorem enc_fold : ∀ (s : List Nat) (o : List Nat), (∀ x ∈ s, x < 256) → encEnd (s.foldl encStep ⟨o, 0, 0⟩) = o ++ encV s
  | [], o, _ => by simp [encEnd, encV]
  | [a], o, h => by
    have ha := h a (by simp)
    simp [encStep, encEnd, encV]
  | [a, b], o, h => by
    have ha := h a (by simp)
    have hb := h b (by simp)
    simp [encStep, encEnd, encV]
    omega
  | a :: b :: c :: r, o, h => by
    have ha := h a (by simp)
    have hb := h b (by simp)
    have hc := h c (by simp)
    have ih := enc_fold r (o ++ [a / 4, a % 4 * 16 + b / 16, b % 16 * 4 + c / 64, c % 64]) (fun x hx => h x (by simp [hx]))
    have e : (a :: b :: c :: r).foldl encStep ⟨o, 0, 0⟩ = r.foldl encStep ⟨o ++ [a / 4, a % 4 * 16 + b / 16, b % 16 * 4 + c / 64, c % 64], 0, 0⟩ := by
      simp only [List.foldl_cons]
      congr 1
      simp [encStep]
      omega
    rw [e, ih]
    simp [encV]
theorem enc_prog (s : List Nat) (h : ∀ x ∈ s, x < 256) : encEnd (encP s) = encV s := by
  have := enc_fold s [] h
  simpa [encP] using this
def bitR (s : List Nat) (k : Nat) : Nat := match s[k / 8]? with | some b => b / 2 ^ (7 - k % 8) % 2 | none => 0
def sextR (s : List Nat) (p : Nat) : Nat := 2 * (2 * (2 * (2 * (2 * (2 * 0 + bitR s p) + bitR s (p + 1)) + bitR s (p + 2)) + bitR s (p + 3)) + bitR s (p + 4)) + bitR s (p + 5)
theorem bit_shift (a b c : Nat) (r : List Nat) (k : Nat) : bitR (a :: b :: c :: r) (k + 24) = bitR r k := by
  unfold bitR
  rw [show (k + 24) / 8 = k / 8 + 3 by omega, show (k + 24) % 8 = k % 8 by omega]
  simp
theorem sext_shift (a b c : Nat) (r : List Nat) (p : Nat) : sextR (a :: b :: c :: r) (p + 24) = sextR r p := by
  unfold sextR
  rw [show p + 24 + 1 = p + 1 + 24 by omega, show p + 24 + 2 = p + 2 + 24 by omega, show p + 24 + 3 = p + 3 + 24 by omega, show p + 24 + 4 = p + 4 + 24 by omega, show p + 24 + 5 = p + 5 + 24 by omega]
  simp only [bit_shift]
theorem bits_at {s : List Nat} {i b : Nat} (h : s[i]? = some b) (j : Nat) (hj : j < 8) : bitR s (8 * i + j) = b / 2 ^ (7 - j) % 2 := by
  unfold bitR
  rw [show (8 * i + j) / 8 = i by omega, show (8 * i + j) % 8 = j by omega, h]
theorem bits_no {s : List Nat} {i : Nat} (h : s[i]? = none) (j : Nat) (hj : j < 8) : bitR s (8 * i + j) = 0 := by
  unfold bitR
  rw [show (8 * i + j) / 8 = i by omega, h]
theorem enc_ref : ∀ (s : List Nat), (∀ x ∈ s, x < 256) → ∀ j, (encV s)[j]? = if 6 * j < 8 * s.length then some (sextR s (6 * j)) else none
  | [], _, j => by simp [encV]
  | [a], h, j => by
    have ha := h a (by simp)
    have b0 := fun j hj => bits_at (s := [a]) (i := 0) (b := a) rfl j hj
    have b1 := fun j hj => bits_no (s := [a]) (i := 1) rfl j hj
    match j with
    | 0 =>
      have := b0 0 (by decide); have := b0 1 (by decide); have := b0 2 (by decide); have := b0 3 (by decide); have := b0 4 (by decide); have := b0 5 (by decide)
      simp [encV, sextR] at *
      omega
    | 1 =>
      have := b0 6 (by decide); have := b0 7 (by decide); have := b1 0 (by decide); have := b1 1 (by decide); have := b1 2 (by decide); have := b1 3 (by decide)
      simp [encV, sextR] at *
      omega
    | j + 2 => simp [encV]; omega
  | [a, b], h, j => by
    have ha := h a (by simp)
    have hb := h b (by simp)
    have b0 := fun j hj => bits_at (s := [a, b]) (i := 0) (b := a) rfl j hj
    have b1 := fun j hj => bits_at (s := [a, b]) (i := 1) (b := b) rfl j hj
    have b2 := fun j hj => bits_no (s := [a, b]) (i := 2) rfl j hj
    match j with
    | 0 =>
      have := b0 0 (by decide); have := b0 1 (by decide); have := b0 2 (by decide); have := b0 3 (by decide); have := b0 4 (by decide); have := b0 5 (by decide)
      simp [encV, sextR] at *
      omega
    | 1 =>
      have := b0 6 (by decide); have := b0 7 (by decide); have := b1 0 (by decide); have := b1 1 (by decide); have := b1 2 (by decide); have := b1 3 (by decide)
      simp [encV, sextR] at *
      omega
    | 2 =>
      have := b1 4 (by decide); have := b1 5 (by decide); have := b1 6 (by decide); have := b1 7 (by decide); have := b2 0 (by decide); have := b2 1 (by decide)
      simp [encV, sextR] at *
      omega
    | j + 3 => simp [encV]; omega
  | a :: b :: c :: r, h, j => by
    have ha := h a (by simp)
    have hb := h b (by simp)
    have hc := h c (by simp)
    have ih := enc_ref r (fun x hx => h x (by simp [hx]))
    have b0 := fun j hj => bits_at (s := a :: b :: c :: r) (i := 0) (b := a) rfl j hj
    have b1 := fun j hj => bits_at (s := a :: b :: c :: r) (i := 1) (b := b) rfl j hj
    have b2 := fun j hj => bits_at (s := a :: b :: c :: r) (i := 2) (b := c) rfl j hj
    match j with
    | 0 =>
      have := b0 0 (by decide); have := b0 1 (by decide); have := b0 2 (by decide); have := b0 3 (by decide); have := b0 4 (by decide); have := b0 5 (by decide)
      simp [encV, sextR] at *
      omega
    | 1 =>
      have := b0 6 (by decide); have := b0 7 (by decide); have := b1 0 (by decide); have := b1 1 (by decide); have := b1 2 (by decide); have := b1 3 (by decide)
      simp [encV, sextR] at *
      omega
    | 2 =>
      have := b1 4 (by decide); have := b1 5 (by decide); have := b1 6 (by decide); have := b1 7 (by decide); have := b2 0 (by decide); have := b2 1 (by decide)
      simp [encV, sextR] at *
      omega
    | 3 =>
      have := b2 2 (by decide); have := b2 3 (by decide); have := b2 4 (by decide); have := b2 5 (by decide); have := b2 6 (by decide); have := b2 7 (by decide)
      simp [encV, sextR] at *
      omega
    | j + 4 =>
      rw [show 6 * (j + 4) = 6 * j + 24 by omega, sext_shift]
      simp only [encV, List.getElem?_cons_succ, List.length_cons]
      rw [ih j]
      by_cases hh : 6 * j < 8 * r.length
      · rw [if_pos hh, if_pos (by omega)]
      · rw [if_neg hh, if_neg (by omega)]
end Go.Proofs.YtfnnjkbhmoomjaaGreatDoor
namespace Go.Proofs.YtfnnjkbhmoomjaaGreatDoor
open Go Go.Fen
set_option linter.unusedSimpArgs false
set_option linter.unusedVariables false
attribute [local irreducible] RunX WP ACall AnyP OpA ProtL afterCall afterOp
set_option maxRecDepth 8000
def decStep (q : EncS) (v : Nat) : EncS :=
  if q.wait = 0 then ⟨q.out, 6, q.rest * 64 + v⟩
  else if q.wait = 6 then ⟨q.out ++ [(q.rest * 64 + v) / 16], 4, (q.rest * 64 + v) % 16⟩
  else if q.wait = 4 then ⟨q.out ++ [(q.rest * 64 + v) / 4], 2, (q.rest * 64 + v) % 4⟩
  else ⟨q.out ++ [q.rest * 64 + v], 0, 0⟩
def decV : List Nat → EncS
  | [] => ⟨[], 0, 0⟩
  | [a] => ⟨[], 6, a⟩
  | [a, b] => ⟨[a * 4 + b / 16], 4, b % 16⟩
  | [a, b, c] => ⟨[a * 4 + b / 16, b % 16 * 16 + c / 4], 2, c % 4⟩
  | a :: b :: c :: d :: r => ⟨(a * 4 + b / 16) :: (b % 16 * 16 + c / 4) :: (c % 4 * 64 + d) :: (decV r).out, (decV r).wait, (decV r).rest⟩
theorem dec_fold : ∀ (s : List Nat) (o : List Nat), (∀ x ∈ s, x < 64) → s.foldl decStep ⟨o, 0, 0⟩ = ⟨o ++ (decV s).out, (decV s).wait, (decV s).rest⟩
  | [], o, _ => by simp [decV]
  | [a], o, h => by simp [decStep, decV]
  | [a, b], o, h => by
    have hb := h b (by simp)
    simp [decStep, decV]
    omega
  | [a, b, c], o, h => by
    have hb := h b (by simp)
    have hc := h c (by simp)
    simp [decStep, decV]
    omega
  | a :: b :: c :: d :: r, o, h => by
    have hb := h b (by simp)
    have hc := h c (by simp)
    have hd := h d (by simp)
    have ih := dec_fold r (o ++ [a * 4 + b / 16, b % 16 * 16 + c / 4, c % 4 * 64 + d]) (fun x hx => h x (by simp [hx]))
    have e : (a :: b :: c :: d :: r).foldl decStep ⟨o, 0, 0⟩ = r.foldl decStep ⟨o ++ [a * 4 + b / 16, b % 16 * 16 + c / 4, c % 4 * 64 + d], 0, 0⟩ := by
      simp only [List.foldl_cons]
      congr 1
      simp [decStep]
      omega
    rw [e, ih]
    simp [decV]
theorem enc_dec : ∀ (s : List Nat), (∀ x ∈ s, x < 64) → (decV s).wait ≠ 6 → (decV s).rest = 0 → encV (decV s).out = s
  | [], _, _, _ => by simp [decV, encV]
  | [a], _, h1, _ => by simp [decV] at h1
  | [a, b], h, _, h2 => by
    have hb := h b (by simp)
    simp [decV] at h2
    simp [decV, encV]
    omega
  | [a, b, c], h, _, h2 => by
    have hb := h b (by simp)
    have hc := h c (by simp)
    simp [decV] at h2
    simp [decV, encV]
    omega
  | a :: b :: c :: d :: r, h, h1, h2 => by
    have hb := h b (by simp)
    have hc := h c (by simp)
    have hd := h d (by simp)
    have ih := enc_dec r (fun x hx => h x (by simp [hx])) (by simpa [decV] using h1) (by simpa [decV] using h2)
    simp only [decV, encV, ih]
    simp
    omega
theorem dec_enc : ∀ (t : List Nat), (∀ x ∈ t, x < 256) → (decV (encV t)).out = t ∧ (decV (encV t)).wait ≠ 6 ∧ (decV (encV t)).rest = 0
  | [], _ => by simp [decV, encV]
  | [a], h => by
    have ha := h a (by simp)
    simp [decV, encV]
    omega
  | [a, b], h => by
    have ha := h a (by simp)
    have hb := h b (by simp)
    simp [decV, encV]
    omega
  | a :: b :: c :: r, h => by
    have ha := h a (by simp)
    have hb := h b (by simp)
    have hc := h c (by simp)
    obtain ⟨h1, h2, h3⟩ := dec_enc r (fun x hx => h x (by simp [hx]))
    simp only [decV, encV, h1, h3]
    refine ⟨?_, h2, trivial⟩
    simp
    omega
theorem enc_lt : ∀ (t : List Nat), (∀ x ∈ t, x < 256) → ∀ v ∈ encV t, v < 64
  | [], _ => by simp [encV]
  | [a], h => by
    have ha := h a (by simp)
    simp [encV]
    omega
  | [a, b], h => by
    have ha := h a (by simp)
    have hb := h b (by simp)
    simp [encV]
    omega
  | a :: b :: c :: r, h => by
    have ha := h a (by simp)
    have hb := h b (by simp)
    have hc := h c (by simp)
    have ih := enc_lt r (fun x hx => h x (by simp [hx]))
    intro v hv
    simp only [encV, List.mem_cons] at hv
    rcases hv with rfl | rfl | rfl | rfl | hv
    · omega
    · omega
    · omega
    · omega
    · exact ih v hv
theorem dec_lt : ∀ (s : List Nat), (∀ x ∈ s, x < 64) → ∀ v ∈ (decV s).out, v < 256
  | [], _ => by simp [decV]
  | [a], _ => by simp [decV]
  | [a, b], h => by
    have ha := h a (by simp)
    have hb := h b (by simp)
    simp [decV]
    omega
  | [a, b, c], h => by
    have ha := h a (by simp)
    have hb := h b (by simp)
    have hc := h c (by simp)
    simp [decV]
    omega
  | a :: b :: c :: d :: r, h => by
    have ha := h a (by simp)
    have hb := h b (by simp)
    have hc := h c (by simp)
    have hd := h d (by simp)
    have ih := dec_lt r (fun x hx => h x (by simp [hx]))
    intro v hv
    simp only [decV, List.mem_cons] at hv
    rcases hv with rfl | rfl | rfl | hv
    · omega
    · omega
    · omega
    · exact ih v hv
theorem enc_len : ∀ (t : List Nat), (encV t).length = (8 * t.length + 5) / 6
  | [] => by simp [encV]
  | [a] => by simp [encV]
  | [a, b] => by simp [encV]
  | a :: b :: c :: r => by
    have ih := enc_len r
    simp only [encV, List.length_cons, ih]
    omega
end Go.Proofs.YtfnnjkbhmoomjaaGreatDoor
namespace Go.Proofs.YtfnnjkbhmoomjaaGreatDoor
open Go Go.Fen
set_option linter.unusedSimpArgs false
set_option linter.unusedVariables false
attribute [local irreducible] RunX WP ACall AnyP OpA ProtL afterCall afterOp
set_option maxRecDepth 8000
def signsL : List UInt8 := [65, 66, 67, 68, 69, 70, 71, 72, 73, 74, 75, 76, 77, 78, 79, 80, 81, 82, 83, 84, 85, 86, 87, 88, 89, 90, 97, 98, 99, 100, 101, 102, 103, 104, 105, 106, 107, 108, 109, 110, 111, 112, 113, 114, 115, 116, 117, 118, 119, 120, 121, 122, 48, 49, 50, 51, 52, 53, 54, 55, 56, 57, 43, 47]
def signC (v : Nat) : UInt8 := signsL.getD v 0
def valC (c : UInt8) : Option Nat := signsL.findIdx? (fun x => x == c)
theorem val_sign : ∀ v, v < 64 → valC (signC v) = some v := by decide +kernel
theorem sign_fill : ∀ v, v < 64 → signC v ≠ 61 := by decide +kernel
theorem val_fill : valC 61 = none := by decide +kernel
theorem val_some {c : UInt8} {v : Nat} (h : valC c = some v) : v < 64 ∧ signC v = c := by
  unfold valC at h
  rw [List.findIdx?_eq_some_iff_getElem] at h
  obtain ⟨h1, h2, _⟩ := h
  refine ⟨h1, ?_⟩
  unfold signC
  rw [List.getD_eq_getElem?_getD, List.getElem?_eq_getElem h1]
  simpa using h2
def valsC : List UInt8 → Option (List Nat)
  | [] => some []
  | c :: r => match valC c with
    | some v => (valsC r).map (v :: ·)
    | none => none
def takeC : List UInt8 → List Nat
  | [] => []
  | c :: r => match valC c with
    | some v => v :: takeC r
    | none => []
def trimC (s : List UInt8) : List UInt8 := (s.reverse.dropWhile (fun b => b == 61)).reverse
def encB (s : List UInt8) : List UInt8 := (encV (s.map UInt8.toNat)).map signC
def padN (n : Nat) : Nat := (4 - n % 4) % 4
def encF (s : List UInt8) : List UInt8 := encB s ++ List.replicate (padN (encB s).length) 61
def decP (s : List UInt8) : Option (List UInt8) :=
  if (trimC s).length ≠ s.length ∧ (s.length % 4 ≠ 0 ∨ 2 < s.length - (trimC s).length) then none else
    match valsC (trimC s) with
    | none => none
    | some V => if (decV V).wait = 6 ∨ (decV V).rest ≠ 0 then none else some ((decV V).out.map UInt8.ofNat)
def decT (s : List UInt8) : List UInt8 := (decV (takeC s)).out.map UInt8.ofNat
def decR (s : List UInt8) : Option (List UInt8) := if s ≠ encB (decT s) ∧ s ≠ encF (decT s) then none else some (decT s)
theorem vals_map : ∀ (V : List Nat), (∀ v ∈ V, v < 64) → valsC (V.map signC) = some V
  | [], _ => rfl
  | v :: V, h => by
    rw [List.map_cons, valsC, val_sign v (h v (by simp)), vals_map V (fun x hx => h x (by simp [hx]))]
    rfl
theorem vals_some : ∀ {s : List UInt8} {V : List Nat}, valsC s = some V → s = V.map signC ∧ ∀ v ∈ V, v < 64
  | [], V, h => by cases h; simp
  | c :: r, V, h => by
    rw [valsC] at h
    cases hc : valC c with
    | none => rw [hc] at h; cases h
    | some v =>
      rw [hc] at h
      simp only at h
      cases hr : valsC r with
      | none => rw [hr] at h; cases h
      | some W =>
        rw [hr] at h
        cases h
        obtain ⟨h1, h2⟩ := vals_some hr
        obtain ⟨h3, h4⟩ := val_some hc
        refine ⟨by rw [List.map_cons, h4, ← h1], ?_⟩
        intro x hx
        rcases List.mem_cons.1 hx with rfl | hx
        · exact h3
        · exact h2 x hx
theorem take_map : ∀ (V : List Nat) (k : Nat), (∀ v ∈ V, v < 64) → takeC (V.map signC ++ List.replicate k 61) = V
  | [], k, _ => by
    cases k with
    | zero => rfl
    | succ k => simp [List.replicate_succ, takeC, val_fill]
  | v :: V, k, h => by
    rw [List.map_cons, List.cons_append, takeC, val_sign v (h v (by simp))]
    simp only
    rw [take_map V k (fun x hx => h x (by simp [hx]))]
theorem drop_rep (l : List UInt8) (k : Nat) : (List.replicate k (61 : UInt8) ++ l).dropWhile (fun b => b == 61) = l.dropWhile (fun b => b == 61) := by
  induction k with
  | zero => rfl
  | succ k ih => rw [List.replicate_succ, List.cons_append, List.dropWhile_cons_of_pos (by rfl), ih]
theorem trim_map (V : List Nat) (k : Nat) (h : ∀ v ∈ V, v < 64) : trimC (V.map signC ++ List.replicate k 61) = V.map signC := by
  unfold trimC
  rw [List.reverse_append, List.reverse_replicate, drop_rep]
  cases hV : (V.map signC).reverse with
  | nil => have := congrArg List.reverse hV; simp at this; simp [this]
  | cons c r =>
    have hc : c ∈ V.map signC := by rw [← List.mem_reverse, hV]; simp
    obtain ⟨v, hv, rfl⟩ := List.mem_map.1 hc
    have hn := sign_fill v (h v hv)
    rw [List.dropWhile_cons_of_neg (by simpa using hn), ← hV, List.reverse_reverse]
theorem drop_split : ∀ (l : List UInt8), ∃ k, l = List.replicate k 61 ++ l.dropWhile (fun b => b == 61)
  | [] => ⟨0, rfl⟩
  | c :: r => by
    by_cases hc : c = 61
    · subst hc
      obtain ⟨k, hk⟩ := drop_split r
      refine ⟨k + 1, ?_⟩
      rw [List.dropWhile_cons_of_pos (by rfl), List.replicate_succ, List.cons_append, ← hk]
    · refine ⟨0, ?_⟩
      rw [List.dropWhile_cons_of_neg (by simpa using hc)]
      rfl
theorem trim_split (s : List UInt8) : ∃ k, s = trimC s ++ List.replicate k 61 := by
  obtain ⟨k, hk⟩ := drop_split s.reverse
  refine ⟨k, ?_⟩
  have := congrArg List.reverse hk
  rw [List.reverse_reverse, List.reverse_append, List.reverse_replicate] at this
  exact this
theorem dec_wait : ∀ V : List Nat, (decV V).wait = 6 ↔ V.length % 4 = 1
  | [] => by simp [decV]
  | [a] => by simp [decV]
  | [a, b] => by simp [decV]
  | [a, b, c] => by simp [decV]
  | a :: b :: c :: d :: r => by
    have ih := dec_wait r
    simp only [decV, List.length_cons, ih]
    omega
theorem toNat_ofNat : ∀ (l : List Nat), (∀ v ∈ l, v < 256) → (l.map UInt8.ofNat).map UInt8.toNat = l
  | [], _ => rfl
  | a :: l, h => by
    have ha := h a (by simp)
    rw [List.map_cons, List.map_cons, toNat_ofNat l (fun x hx => h x (by simp [hx]))]
    congr 1
    simp [UInt8.toNat_ofNat']
    omega
theorem toNat_lt (t : List UInt8) : ∀ v ∈ t.map UInt8.toNat, v < 256 := by
  intro v hv
  obtain ⟨c, _, rfl⟩ := List.mem_map.1 hv
  exact c.toNat_lt
theorem dec_same (s : List UInt8) : decP s = decR s := by
  by_cases hs : ∃ (V : List Nat) (k : Nat), (∀ v ∈ V, v < 64) ∧ s = V.map signC ++ List.replicate k 61
  · obtain ⟨V, k, hV, rfl⟩ := hs
    unfold decP decR decT
    rw [take_map V k hV, trim_map V k hV, vals_map V hV]
    have ho := dec_lt V hV
    have hw := dec_wait V
    by_cases hq : (decV V).wait = 6 ∨ (decV V).rest ≠ 0
    · simp only
      rw [if_pos hq]
      have hno : ¬ ((V.map signC ++ List.replicate k 61 = encB ((decV V).out.map UInt8.ofNat)) ∨ (V.map signC ++ List.replicate k 61 = encF ((decV V).out.map UInt8.ofNat))) := by
        intro he
        have he' : ∃ j, V.map signC ++ List.replicate k 61 = encB ((decV V).out.map UInt8.ofNat) ++ List.replicate j 61 := by
          rcases he with he | he
          · exact ⟨0, by simpa using he⟩
          · exact ⟨_, he⟩
        obtain ⟨j, he⟩ := he'
        have ht := congrArg takeC he
        unfold encB at ht
        rw [take_map V k hV, toNat_ofNat _ ho, take_map _ j (enc_lt _ ho)] at ht
        obtain ⟨_, h2, h3⟩ := dec_enc _ ho
        rw [← ht] at h2 h3
        rcases hq with hq | hq
        · exact h2 hq
        · exact hq h3
      split
      · rw [if_pos ⟨fun e => hno (.inl e), fun e => hno (.inr e)⟩]
      · rw [if_pos ⟨fun e => hno (.inl e), fun e => hno (.inr e)⟩]
    · have h1 : (decV V).wait ≠ 6 := fun e => hq (.inl e)
      have h2 : (decV V).rest = 0 := Decidable.byContradiction fun e => hq (.inr e)
      have hb : encB ((decV V).out.map UInt8.ofNat) = V.map signC := by
        unfold encB
        rw [toNat_ofNat _ ho, enc_dec V hV h1 h2]
      simp only
      rw [if_neg hq]
      unfold encF
      rw [hb]
      simp only [List.length_append, List.length_map, List.length_replicate]
      have hl : V.length % 4 ≠ 1 := fun e => h1 (hw.2 e)
      have hk0 : (V.map signC ++ List.replicate k 61 = V.map signC) ↔ k = 0 := by
        constructor
        · intro e
          have := congrArg List.length e
          simp at this
          exact this
        · rintro rfl; simp
      have hkp : (V.map signC ++ List.replicate k 61 = V.map signC ++ List.replicate (padN V.length) 61) ↔ k = padN V.length := by
        constructor
        · intro e
          have := congrArg List.length e
          simp at this
          exact this
        · rintro rfl; rfl
      by_cases hg : k = 0 ∨ k = padN V.length
      · rw [if_neg (by unfold padN at hg; omega), if_neg (by rw [ne_eq, ne_eq, hk0, hkp]; omega)]
      · rw [if_pos (by unfold padN at hg; omega), if_pos (by rw [ne_eq, ne_eq, hk0, hkp]; omega)]
  · have e1 : decP s = none := by
      unfold decP
      split
      · rfl
      · cases hv : valsC (trimC s) with
        | none => rfl
        | some V =>
          exfalso
          obtain ⟨k, hk⟩ := trim_split s
          obtain ⟨h1, h2⟩ := vals_some hv
          exact hs ⟨V, k, h2, by rw [← h1]; exact hk⟩
    have e2 : decR s = none := by
      unfold decR
      rw [if_pos]
      constructor
      · intro e
        exact hs ⟨_, 0, enc_lt _ (toNat_lt (decT s)), by rw [List.replicate_zero, List.append_nil]; exact e⟩
      · intro e
        exact hs ⟨_, _, enc_lt _ (toNat_lt (decT s)), e⟩
    rw [e1, e2]
end Go.Proofs.YtfnnjkbhmoomjaaGreatDoor
namespace Go.Proofs.YtfnnjkbhmoomjaaGreatDoor
open Go Go.Fen
set_option linter.unusedSimpArgs false
set_option linter.unusedVariables false
attribute [local irreducible] RunX WP ACall AnyP OpA ProtL afterCall afterOp
set_option maxRecDepth 8000
theorem step_on {p : List Nat} {b : Nat} (h : kindU (p ++ [b]) = 1) (s : List Nat) : codesF p (b :: s) = codesF (p ++ [b]) s := by
  rw [codesF]
  unfold stepU
  rw [if_neg (by rw [h]; decide), if_pos h]
  rfl
theorem step_all {p : List Nat} {b : Nat} (h : kindU (p ++ [b]) = 2) (s : List Nat) : codesF p (b :: s) = codeU (p ++ [b]) :: codesF [] s := by
  rw [codesF]
  unfold stepU
  rw [if_pos h]
  rfl
theorem kind_first {a n : Nat} (h : lenU a = n) (hn : 2 ≤ n) : kindU [a] = 1 := by
  simp only [kindU, h, List.length_nil, contU]
  rw [if_neg (by omega), if_pos trivial, if_pos (by omega)]
theorem kind_more {a n : Nat} {r : List Nat} (h : lenU a = n) (hc : contU (loU a) (hiU a) r = true) (hr : r.length + 1 < n) : kindU (a :: r) = 1 := by
  simp only [kindU, h, hc]
  rw [if_neg (by omega), if_pos trivial, if_pos hr]
theorem kind_whole {a n : Nat} {r : List Nat} (h : lenU a = n) (hc : contU (loU a) (hiU a) r = true) (hr : r.length + 1 = n) : kindU (a :: r) = 2 := by
  simp only [kindU, h, hc]
  rw [if_neg (by omega), if_pos trivial, if_neg (by omega)]
theorem codes_put {c : Nat} (hc : okU c = true) (s : List Nat) : codesF [] (putN c ++ s) = c :: codesF [] s := by
  have hle : c ≤ 1114111 ∧ ¬ (55296 ≤ c ∧ c ≤ 57343) := by
    simp only [okU, Bool.and_eq_true, decide_eq_true_eq, Bool.not_eq_true', Bool.and_eq_false_iff, decide_eq_false_iff_not] at hc
    omega
  obtain ⟨h1, h2⟩ := hle
  unfold putN
  by_cases q1 : c < 128
  · rw [if_pos q1]
    have hl : lenU c = 1 := by unfold lenU; rw [if_pos q1]
    have hk : kindU ([] ++ [c]) = 2 := by simp only [List.nil_append]; exact kind_whole hl rfl rfl
    rw [List.cons_append, List.nil_append, step_all hk]
    simp [codeU]
  rw [if_neg q1]
  by_cases q2 : c < 2048
  · rw [if_pos q2]
    have hl : lenU (192 + c / 64) = 2 := by unfold lenU; repeat' split
                                            all_goals omega
    have hcn : contU (loU (192 + c / 64)) (hiU (192 + c / 64)) [128 + c % 64] = true := by
      have e1 : loU (192 + c / 64) = 128 := by unfold loU; repeat' split
                                               all_goals omega
      have e2 : hiU (192 + c / 64) = 191 := by unfold hiU; repeat' split
                                               all_goals omega
      rw [e1, e2]; simp [contU]; omega
    rw [List.cons_append, step_on (p := []) (kind_first hl (by decide)), List.nil_append, List.cons_append, List.nil_append, step_all (p := [192 + c / 64]) (kind_whole hl hcn rfl)]
    simp [codeU]
    omega
  rw [if_neg q2]
  by_cases q3 : c < 65536
  · rw [if_pos q3]
    have hl : lenU (224 + c / 4096) = 3 := by unfold lenU; repeat' split
                                              all_goals omega
    have hc1 : loU (224 + c / 4096) ≤ 128 + c / 64 % 64 ∧ 128 + c / 64 % 64 ≤ hiU (224 + c / 4096) := by
      unfold loU hiU
      constructor
      · repeat' split
        all_goals omega
      · repeat' split
        all_goals omega
    have hm : contU (loU (224 + c / 4096)) (hiU (224 + c / 4096)) [128 + c / 64 % 64] = true := by simp [contU, hc1.1, hc1.2]
    have hw : contU (loU (224 + c / 4096)) (hiU (224 + c / 4096)) [128 + c / 64 % 64, 128 + c % 64] = true := by simp [contU, hc1.1, hc1.2]; omega
    rw [List.cons_append, step_on (p := []) (kind_first hl (by decide)), List.nil_append, List.cons_append, step_on (p := [224 + c / 4096]) (kind_more hl hm (by simp)), List.cons_append, List.nil_append,
      List.cons_append, List.nil_append, step_all (p := [224 + c / 4096, 128 + c / 64 % 64]) (kind_whole hl hw rfl)]
    simp [codeU]
    omega
  · rw [if_neg q3]
    have hl : lenU (240 + c / 262144) = 4 := by unfold lenU; repeat' split
                                                all_goals omega
    have hc1 : loU (240 + c / 262144) ≤ 128 + c / 4096 % 64 ∧ 128 + c / 4096 % 64 ≤ hiU (240 + c / 262144) := by
      unfold loU hiU
      constructor
      · repeat' split
        all_goals omega
      · repeat' split
        all_goals omega
    have hm : contU (loU (240 + c / 262144)) (hiU (240 + c / 262144)) [128 + c / 4096 % 64] = true := by simp [contU, hc1.1, hc1.2]
    have hm2 : contU (loU (240 + c / 262144)) (hiU (240 + c / 262144)) [128 + c / 4096 % 64, 128 + c / 64 % 64] = true := by simp [contU, hc1.1, hc1.2]; omega
    have hw : contU (loU (240 + c / 262144)) (hiU (240 + c / 262144)) [128 + c / 4096 % 64, 128 + c / 64 % 64, 128 + c % 64] = true := by simp [contU, hc1.1, hc1.2]; omega
    rw [List.cons_append, step_on (p := []) (kind_first hl (by decide)), List.nil_append, List.cons_append, step_on (p := [240 + c / 262144]) (kind_more hl hm (by simp)), List.cons_append, List.nil_append,
      List.cons_append, step_on (p := [240 + c / 262144, 128 + c / 4096 % 64]) (kind_more hl hm2 (by simp)), List.cons_append, List.cons_append, List.nil_append,
      List.cons_append, List.nil_append, step_all (p := [240 + c / 262144, 128 + c / 4096 % 64, 128 + c / 64 % 64]) (kind_whole hl hw rfl)]
    simp [codeU]
    omega
theorem codes_text : ∀ (l : List Nat), (∀ c ∈ l, okU c = true) → codesU (textU l) = l
  | [], _ => rfl
  | c :: l, h => by
    have hc := h c (by simp)
    have ih := codes_text l (fun x hx => h x (by simp [hx]))
    unfold codesU textU at *
    rw [List.flatMap_cons]
    have e : putU c = putN c := by unfold putU; rw [hc]; rfl
    rw [e, codes_put hc, ih]
end Go.Proofs.YtfnnjkbhmoomjaaGreatDoor
namespace Go.Proofs.YtfnnjkbhmoomjaaGreatDoor
open Go Go.Fen
set_option linter.unusedSimpArgs false
set_option linter.unusedVariables false
attribute [local irreducible] RunX WP ACall AnyP OpA ProtL afterCall afterOp
set_option maxRecDepth 8000
def okT (c : Nat) : Bool := decide (32 ≤ c) && !(decide (127 ≤ c) && decide (c ≤ 159))
def nameT (s : List UInt8) : Bool := (codesB s).all okT && decide (textS (codesB s) = s)
def titleB (s : List UInt8) : Bool := decide (s.length ≤ 510) && nameT s
theorem textS_map (l : List Nat) : (textS l).map UInt8.toNat = textU l := by
  induction l with
  | nil => rfl
  | cons c l ih =>
    show (putS c ++ textS l).map UInt8.toNat = putU c ++ textU l
    rw [List.map_append, ih]
    congr 1
    unfold putS
    exact toNat_ofNat _ (putU_byte c)
theorem nameT_text {l : List Nat} (h : ∀ c ∈ l, okU c = true ∧ okT c = true) : nameT (textS l) = true := by
  have e : codesB (textS l) = l := by
    unfold codesB
    rw [textS_map, codes_text l (fun c hc => (h c hc).1)]
  unfold nameT
  rw [e, Bool.and_eq_true, List.all_eq_true]
  exact ⟨fun c hc => (h c hc).2, by simp⟩
theorem putN_clean (c : Nat) (hc : okT c = true) : ∀ x ∈ putU c, 32 ≤ x ∧ x ≠ 127 := by
  unfold okT at hc
  simp at hc
  intro x hx
  unfold putU at hx
  split at hx
  · unfold putN at hx
    repeat' split at hx
    all_goals (simp at hx; omega)
  · simp [putN] at hx
    omega
def cleanB (s : List UInt8) : Prop := ∀ b ∈ s, 32 ≤ b.toNat ∧ b.toNat ≠ 127
theorem nameT_clean {s : List UInt8} (h : nameT s = true) : cleanB s := by
  unfold nameT at h
  rw [Bool.and_eq_true, List.all_eq_true, decide_eq_true_eq] at h
  obtain ⟨h1, h2⟩ := h
  intro b hb
  rw [← h2] at hb
  have hm : b.toNat ∈ (textS (codesB s)).map UInt8.toNat := List.mem_map.2 ⟨b, hb, rfl⟩
  rw [textS_map] at hm
  obtain ⟨c, hc, hx⟩ := List.mem_flatMap.1 hm
  exact putN_clean c (h1 c hc) _ hx
def rgbT (n : Nat) : List UInt8 := [114, 103, 98, 58, hexC (n / 1048576), hexC (n / 65536 % 16), 47, hexC (n / 4096 % 16), hexC (n / 256 % 16), 47, hexC (n / 16 % 16), hexC (n % 16)]
def colP : List UInt8 → Option Nat
  | [p0, p1, p2, p3, a, b, q, c, d, r, e, f] => if p0 = 114 ∧ p1 = 103 ∧ p2 = 98 ∧ p3 = 58 ∧ q = 47 ∧ r = 47 then
      (match hexV a b, hexV c d, hexV e f with
      | some x, some y, some z => some (x * 65536 + y * 256 + z)
      | _, _, _ => none) else none
  | _ => none
theorem hex_hex : ∀ x, x < 16 → ∀ y, y < 16 → hexV (hexC x) (hexC y) = some (x * 16 + y) := by decide +kernel
theorem hex_clean : ∀ x, x < 16 → 32 ≤ (hexC x).toNat ∧ (hexC x).toNat ≠ 127 ∧ hexC x ≠ 59 := by decide +kernel
theorem col_rgb {n : Nat} (h : n ≤ 16777215) : colP (rgbT n) = some n := by
  unfold rgbT colP
  simp only
  rw [if_pos (by simp), hex_hex _ (by omega) _ (by omega), hex_hex _ (by omega) _ (by omega), hex_hex _ (by omega) _ (by omega)]
  simp only
  congr 1
  omega
theorem rgb_clean {n : Nat} (h : n ≤ 16777215) : cleanB (rgbT n) := by
  intro b hb
  simp only [rgbT, List.mem_cons, List.not_mem_nil, or_false] at hb
  have g := fun x hx => hex_clean x hx
  rcases hb with rfl | rfl | rfl | rfl | rfl | rfl | rfl | rfl | rfl | rfl | rfl | rfl
  all_goals first
    | decide
    | exact ⟨(g _ (by omega)).1, (g _ (by omega)).2.1⟩
def dgO (b : UInt8) : Bool := decide (48 ≤ b.toNat) && decide (b.toNat ≤ 57)
def valO (w : List UInt8) : Nat := w.foldl (fun n b => n * 10 + (b.toNat - 48)) 0
def numO (w : List UInt8) : Option Nat := if w = [] ∨ 3 < w.length ∨ w.all dgO = false ∨ 255 < valO w then none else some (valO w)
theorem itoa_num : ∀ n : Nat, n < 256 → numO (Lib.itoa (n : Int)) = some n ∧ (Lib.itoa (n : Int)).length ≤ 3 ∧ (Lib.itoa (n : Int)).all (fun b => decide (b ≠ 59) && (decide (32 ≤ b.toNat) && decide (b.toNat ≠ 127))) = true := by decide +kernel
def cutO (s : List UInt8) : Option (List UInt8 × List UInt8) := if s.dropWhile (fun b => b != 59) = [] then none else some (s.takeWhile (fun b => b != 59), (s.dropWhile (fun b => b != 59)).drop 1)
theorem cut_app : ∀ {w : List UInt8} (r : List UInt8), (∀ b ∈ w, b ≠ 59) → cutO (w ++ 59 :: r) = some (w, r) := by
  intro w r hw
  have h : (w ++ 59 :: r).takeWhile (fun b => b != 59) = w ∧ (w ++ 59 :: r).dropWhile (fun b => b != 59) = 59 :: r := by
    induction w with
    | nil => exact ⟨rfl, rfl⟩
    | cons c w ih =>
      have hc : (c != 59) = true := by simpa using hw c (by simp)
      obtain ⟨h1, h2⟩ := ih (fun b hb => hw b (List.mem_cons_of_mem _ hb))
      simp only [List.cons_append]
      rw [List.takeWhile_cons, List.dropWhile_cons, if_pos hc, if_pos hc, h1, h2]
      exact ⟨rfl, rfl⟩
  unfold cutO
  rw [h.1, h.2]
  rfl
structure Ac where
  kind : Int
  n : Int
  m : Int
  ck : Int
  cn : Int
  text : List UInt8
  deriving DecidableEq
def zeroA : Ac := ⟨0, 0, 0, 0, 0, []⟩
def printO (a : Ac) : Option (List UInt8) :=
  if a = ⟨44, 0, 0, 0, 0, a.text⟩ ∧ titleB a.text = true then some (50 :: 59 :: a.text)
  else if a = ⟨45, a.n, 0, 2, a.cn, []⟩ ∧ (0 ≤ a.n ∧ a.n ≤ 255) ∧ (0 ≤ a.cn ∧ a.cn ≤ 16777215) then some (52 :: 59 :: (Lib.itoa a.n ++ 59 :: rgbT a.cn.toNat))
  else if a = ⟨46, 0, 0, 0, 0, a.text⟩ ∧ a.text.length ≤ 378 then some (53 :: 50 :: 59 :: 99 :: 59 :: encF a.text)
  else none
def parseO (s : List UInt8) : Option Ac :=
  if 512 < s.length then none else
    match cutO s with
    | none => none
    | some (k, r) =>
      if k = [48] ∨ k = [50] then (if titleB r then some ⟨44, 0, 0, 0, 0, r⟩ else none)
      else if k = [52] then
        (match cutO r with
        | none => none
        | some (h, t) => match numO h, colP t with
          | some n, some c => some ⟨45, n, 0, 2, c, []⟩
          | _, _ => none)
      else if k = [53, 50] then
        (match cutO r with
        | none => none
        | some (w, t) => if w = [99] then
            (match decP t with
            | some c => if c.length ≤ 378 then some ⟨46, 0, 0, 0, 0, c⟩ else none
            | none => none) else none)
      else none
theorem print_kinds {a : Ac} {s : List UInt8} (h : printO a = some s) :
    (∃ t, a = ⟨44, 0, 0, 0, 0, t⟩ ∧ titleB t = true ∧ s = 50 :: 59 :: t) ∨
    (∃ n c : Nat, a = ⟨45, n, 0, 2, c, []⟩ ∧ n < 256 ∧ c ≤ 16777215 ∧ s = 52 :: 59 :: (Lib.itoa n ++ 59 :: rgbT c)) ∨
    (∃ t, a = ⟨46, 0, 0, 0, 0, t⟩ ∧ t.length ≤ 378 ∧ s = 53 :: 50 :: 59 :: 99 :: 59 :: encF t) := by
  unfold printO at h
  split at h
  · next hh => cases h; exact .inl ⟨_, hh.1, hh.2, rfl⟩
  · split at h
    · next hh =>
      obtain ⟨h1, ⟨h2, h3⟩, h4, h5⟩ := hh
      cases h
      obtain ⟨n, hn⟩ : ∃ n : Nat, a.n = n := ⟨a.n.toNat, by omega⟩
      obtain ⟨c, hc⟩ : ∃ c : Nat, a.cn = c := ⟨a.cn.toNat, by omega⟩
      rw [hn, hc] at h1
      exact .inr (.inl ⟨n, c, h1, by omega, by omega, by rw [hn, hc]; rfl⟩)
    · split at h
      · next hh => cases h; exact .inr (.inr ⟨_, hh.1, hh.2, rfl⟩)
      · cases h
theorem encF_len (t : List UInt8) : (encF t).length = (t.length + 2) / 3 * 4 := by
  unfold encF encB padN
  simp only [List.length_append, List.length_map, List.length_replicate, enc_len]
  omega
theorem sign_clean : ∀ v, v < 64 → 32 ≤ (signC v).toNat ∧ (signC v).toNat ≠ 127 := by decide +kernel
theorem encF_clean (t : List UInt8) : cleanB (encF t) := by
  intro b hb
  unfold encF encB at hb
  rcases List.mem_append.1 hb with hb | hb
  · obtain ⟨v, hv, rfl⟩ := List.mem_map.1 hb
    exact sign_clean v (enc_lt _ (toNat_lt t) v hv)
  · rw [List.eq_of_mem_replicate hb]; decide
theorem dec_encF (t : List UInt8) : decP (encF t) = some t := by
  rw [dec_same]
  have hV := enc_lt _ (toNat_lt t)
  have hd : decT (encF t) = t := by
    unfold decT encF encB
    rw [take_map _ _ hV, (dec_enc _ (toNat_lt t)).1, List.map_map]
    conv => rhs; rw [← List.map_id t]
    apply List.map_congr_left
    intro c _
    simp
  unfold decR
  rw [hd, if_neg (by simp)]
theorem parse_print {a : Ac} {s : List UInt8} (h : printO a = some s) : parseO s = some a ∧ 0 < s.length ∧ s.length ≤ 512 ∧ cleanB s := by
  rcases print_kinds h with ⟨t, rfl, ht, rfl⟩ | ⟨n, c, rfl, hn, hc, rfl⟩ | ⟨t, rfl, ht, rfl⟩
  · have htl : t.length ≤ 510 ∧ nameT t = true := by unfold titleB at ht; simpa using ht
    refine ⟨?_, by simp, by simp; omega, ?_⟩
    · unfold parseO
      have hcut : cutO (50 :: 59 :: t) = some ([50], t) := cut_app (w := [50]) t (by simp)
      rw [if_neg (by simp; omega), hcut]
      simp [ht]
    · intro b hb
      simp only [List.mem_cons] at hb
      rcases hb with rfl | rfl | hb
      · decide
      · decide
      · exact nameT_clean htl.2 b hb
  · obtain ⟨h1, h2, h3⟩ := itoa_num n hn
    rw [List.all_eq_true] at h3
    have hw : ∀ b ∈ Lib.itoa (n : Int), b ≠ 59 := fun b hb => by have := h3 b hb; simp at this; exact this.1
    have hl : (rgbT c).length = 12 := rfl
    refine ⟨?_, by simp, by simp; omega, ?_⟩
    · unfold parseO
      have hcut : cutO (52 :: 59 :: (Lib.itoa (n : Int) ++ 59 :: rgbT c)) = some ([52], Lib.itoa (n : Int) ++ 59 :: rgbT c) := cut_app (w := [52]) _ (by simp)
      rw [if_neg (by simp; omega), hcut]
      simp only
      rw [if_neg (by decide), if_pos trivial, cut_app _ hw]
      simp only [h1, col_rgb hc]
    · intro b hb
      simp only [List.mem_cons, List.mem_append] at hb
      rcases hb with rfl | rfl | hb | rfl | hb
      · decide
      · decide
      · have := h3 b hb; simp at this; exact ⟨this.2.1, this.2.2⟩
      · decide
      · exact rgb_clean hc b hb
  · have hl := encF_len t
    refine ⟨?_, by simp, by simp; omega, ?_⟩
    · unfold parseO
      have hcut : cutO (53 :: 50 :: 59 :: 99 :: 59 :: encF t) = some ([53, 50], 99 :: 59 :: encF t) := cut_app (w := [53, 50]) _ (by simp)
      have hcut2 : cutO (99 :: 59 :: encF t) = some ([99], encF t) := cut_app (w := [99]) _ (by simp)
      rw [if_neg (by simp; omega), hcut]
      simp only
      rw [if_neg (by decide), if_neg (by decide), if_pos trivial, hcut2]
      simp only [if_true, dec_encF, ht]
    · intro b hb
      simp only [List.mem_cons] at hb
      rcases hb with rfl | rfl | rfl | rfl | rfl | hb
      · decide
      · decide
      · decide
      · decide
      · decide
      · exact encF_clean t b hb
end Go.Proofs.YtfnnjkbhmoomjaaGreatDoor
