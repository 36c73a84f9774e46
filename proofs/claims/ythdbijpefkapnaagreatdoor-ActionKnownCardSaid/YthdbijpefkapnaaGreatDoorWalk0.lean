/- YthdbijpefkapnaaGreatDoorWalk0. Texts of the proof of a law about texts: a layer of abstract values above the worlds, the types, the walks of the functions that the law reaches, the law and its card. Own work of an AI agent. -/
import Derived.Test.YthdbijpefkapnaaGreatDoorCore2
import Derived.Test.YthdbijpefkapnaaGreatDoorCore1
import Derived.Test.YthdbijpefkapnaaGreatDoorTy
import Derived.Shelf.LaysM
import Derived.Shelf.Strconv.Itoa3
import Derived.Shelf.Abstract
import Derived.Lib.ItoaLen
import Derived.Lib.AppendIntMem
import Derived.Test.YthdbijpefkapnaaGreatDoorShelf
set_option linter.all false
set_option linter.unusedVariables false
set_option linter.unusedSimpArgs false
namespace Go.Proofs.YthdbijpefkapnaaGreatDoor
open Go Go.Fen
set_option linter.unusedSimpArgs false
set_option linter.unusedVariables false
attribute [local irreducible] RunX WP ACall AnyP OpA ProtL afterCall afterOp
set_option maxRecDepth 8000
abbrev Rt := AOut → List Blk → Prop
theorem bnn (b : Bool) : (((!b) = true) = (b = false)) ∧ (((!b) = false) = (b = true)) := by cases b <;> simp
theorem en {P : Program} {w0 : World} {S : List Blk} {f : FuncId} {F : Func} {c : Code} {args : List AV} {R : AOut → List Blk → Prop} {n : Nat} (hf : P.funcs[f]? = some F) (hb : F.body = some c) (hn : F.ntmps = n)
 (h0 : OuterOk S → RunX P w0 S.length n none [.it (.code c)] (FPost P F S R) .normal (env0 args) S) (hname : (F.name == "runtime.NumGoroutine") = false := by decide +kernel) (hargs : args.length ≤ n := by simp) (hbd : n ≤ DS := by decide) : ACall P w0 f args S R := by
 subst hn; exact enter hf hb hname hargs hbd h0
def bAV (b : UInt8) : AV := .int .u8 (b.toNat : Int)
theorem bytesOf_map (l : List UInt8) : bytesOf (l.map bAV) = some l := by
 induction l with
 | nil => rfl
 | cons x l ih => simp [bytesOf, bAV, ih]
theorem okBytes_map (l : List UInt8) : okBytes (l.map bAV) = true := by
 unfold okBytes
 rw [List.all_eq_true]
 intro x hx
 obtain ⟨b, _, rfl⟩ := List.mem_map.1 hx
 have := b.toNat_lt
 simp [bAV]; omega
@[go_sem] theorem bAV_ok (l : List UInt8) : okEls 1 (l.map bAV) = true := by
 unfold okEls; rw [List.all_eq_true]; intro x hx; obtain ⟨y, _, rfl⟩ := List.mem_map.1 hx; rfl
@[go_sem] theorem bAV_plainL (l : List UInt8) : plainL (l.map bAV) = true := plainL_map (fun _ => rfl) l
@[go_sem] theorem bAV_ltL (l : List UInt8) (n : Nat) : ltL n (l.map bAV) = true := ltL_iff.2 fun x hx => by obtain ⟨y, _, rfl⟩ := List.mem_map.1 hx; rfl
def hexC (n : Nat) : UInt8 := if n < 10 then UInt8.ofNat (48 + n) else UInt8.ofNat (87 + n)
def hexD1 (b : UInt8) : Option Nat :=
 if 48 ≤ b.toNat ∧ b.toNat ≤ 57 then some (b.toNat - 48)
 else if 97 ≤ b.toNat ∧ b.toNat ≤ 102 then some (b.toNat - 87)
 else if 65 ≤ b.toNat ∧ b.toNat ≤ 70 then some (b.toNat - 55) else none
def hexV (a b : UInt8) : Option Nat :=
 match hexD1 a, hexD1 b with
 | some x, some y => some (x * 16 + y)
 | _, _ => none
theorem hexD1_lt {a : UInt8} {x : Nat} (h : hexD1 a = some x) : x < 16 := by
 unfold hexD1 at h
 split at h
 ·cases h; omega
 ·split at h
  ·cases h; omega
  ·split at h
   ·cases h; omega
   ·cases h
theorem hexV_lt {a b : UInt8} {v : Nat} (h : hexV a b = some v) : v < 256 := by
 unfold hexV at h
 split at h
 ·next x y hx hy =>
  cases h
  have := hexD1_lt hx
  have := hexD1_lt hy
  omega
 ·cases h
def lenU (b : Nat) : Nat := if b < 128 then 1 else if b < 194 then 0 else if b < 224 then 2 else if b < 240 then 3 else if b < 245 then 4 else 0
def loU (b : Nat) : Nat := if b = 224 then 160 else if b = 240 then 144 else 128
def hiU (b : Nat) : Nat := if b = 237 then 159 else if b = 244 then 143 else 191
def contU : Nat → Nat → List Nat → Bool
 | _, _, [] => true
 | lo, hi, b :: r => decide (lo ≤ b) && (decide (b ≤ hi) && contU 128 191 r)
def kindU : List Nat → Nat
 | [] => 0
 | b :: r => if lenU b < r.length + 1 then 0 else if contU (loU b) (hiU b) r then (if r.length + 1 < lenU b then 1 else 2) else 0
def codeU : List Nat → Nat
 | [] => 0
 | b :: r => r.foldl (fun c x => c * 64 + x % 64) (if r = [] then b else b % 2 ^ (7 - (r.length + 1)))
def firstR (b : Nat) : Nat × Nat := if b < 128 then (1, b) else if b < 192 then (0, 0) else if b < 224 then (2, b - 192) else if b < 240 then (3, b - 224) else if b < 248 then (4, b - 240) else (0, 0)
theorem first_cases (a : Nat) :
  (a < 128 ∧ firstR a = (1, a) ∧ lenU a = 1) ∨ ((128 ≤ a ∧ a < 192 ∨ 248 ≤ a) ∧ firstR a = (0, 0) ∧ lenU a = 0) ∨ (192 ≤ a ∧ a < 194 ∧ firstR a = (2, a - 192) ∧ lenU a = 0) ∨
  (194 ≤ a ∧ a < 224 ∧ firstR a = (2, a - 192) ∧ lenU a = 2) ∨ (224 ≤ a ∧ a < 240 ∧ firstR a = (3, a - 224) ∧ lenU a = 3) ∨ (240 ≤ a ∧ a < 245 ∧ firstR a = (4, a - 240) ∧ lenU a = 4) ∨ (245 ≤ a ∧ a < 248 ∧ firstR a = (4, a - 240) ∧ lenU a = 0) := by
 unfold firstR lenU
 repeat' split
 all_goals simp
 all_goals omega
theorem cont_bnd {lo hi : Nat} {l : List Nat} (h : contU lo hi l = true) (h1 : 128 ≤ lo) (h2 : hi ≤ 191) : ∀ x ∈ l, 128 ≤ x ∧ x ≤ 191 := by
 induction l generalizing lo hi with
 | nil => intro x hx; cases hx
 | cons b r ih =>
  simp only [contU, Bool.and_eq_true, decide_eq_true_eq] at h
  intro x hx
  rcases List.mem_cons.1 hx with rfl | hx
  ·omega
  ·exact ih h.2.2 (Nat.le_refl _) (Nat.le_refl _) x hx
theorem loU_ge (a : Nat) : 128 ≤ loU a := by
 unfold loU
 repeat' split
 all_goals omega
theorem hiU_le (a : Nat) : hiU a ≤ 191 := by
 unfold hiU
 repeat' split
 all_goals omega
theorem kind2 {a : Nat} {r : List Nat} (h : kindU (a :: r) = 2) : lenU a = r.length + 1 ∧ ∀ x ∈ r, 128 ≤ x ∧ x ≤ 191 := by
 rw [kindU] at h
 split at h
 ·cases h
 ·split at h
  ·next hc =>
   split at h
   ·cases h
   ·exact ⟨by omega, cont_bnd hc (loU_ge a) (hiU_le a)⟩
  ·cases h
def rightU (p : List Nat) : Bool := decide (p = []) || decide (kindU p = 1)
def step1 (b : Nat) : List Nat × List Nat := if kindU [b] = 2 then ([], [codeU [b]]) else if kindU [b] = 1 then ([b], []) else ([], [65533])
def stepU (p : List Nat) (b : Nat) : List Nat × List Nat :=
 if kindU (p ++ [b]) = 2 then ([], [codeU (p ++ [b])]) else if kindU (p ++ [b]) = 1 then (p ++ [b], []) else if p = [] then ([], [65533]) else ((step1 b).1, 65533 :: (step1 b).2)
def flushU (p : List Nat) : List Nat := if p = [] then [] else [65533]
def codesF : List Nat → List Nat → List Nat
 | p, [] => flushU p
 | p, b :: s => (stepU p b).2 ++ codesF (stepU p b).1 s
def codesU (s : List Nat) : List Nat := codesF [] s
theorem right_nil : rightU [] = true := rfl
theorem step1_right (b : Nat) : rightU (step1 b).1 = true := by
 unfold step1
 split
 ·rfl
 ·split
  ·next h => simp [rightU, h]
  ·rfl
theorem stepU_right (p : List Nat) (b : Nat) : rightU (stepU p b).1 = true := by
 unfold stepU
 split
 ·rfl
 ·split
  ·next h => simp [rightU, h]
  ·split
   ·rfl
   ·exact step1_right b
theorem kind1 {a : Nat} {r : List Nat} (h : kindU (a :: r) = 1) : r.length + 1 < lenU a ∧ lenU a ≤ 4 ∧ ∀ x ∈ r, 128 ≤ x ∧ x ≤ 191 := by
 have h4 : lenU a ≤ 4 := by
  unfold lenU
  repeat' split
  all_goals omega
 rw [kindU] at h
 split at h
 ·cases h
 ·split at h
  ·next hc =>
   split at h
   ·next h2 => exact ⟨h2, h4, cont_bnd hc (loU_ge a) (hiU_le a)⟩
   ·cases h
  ·cases h
theorem right_len {p : List Nat} (h : rightU p = true) : p.length ≤ 3 := by
 cases p with
 | nil => simp
 | cons a r =>
  simp only [rightU, Bool.or_eq_true, decide_eq_true_eq] at h
  rcases h with h | h
  ·cases h
  ·obtain ⟨h1, h2, _⟩ := kind1 h
   simp; omega
def okU (cp : Nat) : Bool := decide (cp ≤ 1114111) && !(decide (55296 ≤ cp) && decide (cp ≤ 57343))
def putN (cp : Nat) : List Nat :=
 if cp < 128 then [cp] else if cp < 2048 then [192 + cp / 64, 128 + cp % 64] else if cp < 65536 then [224 + cp / 4096, 128 + cp / 64 % 64, 128 + cp % 64] else [240 + cp / 262144, 128 + cp / 4096 % 64, 128 + cp / 64 % 64, 128 + cp % 64]
def putU (cp : Nat) : List Nat := putN (if okU cp then cp else 65533)
def textU (l : List Nat) : List Nat := l.flatMap putU
theorem putN_byte (cp : Nat) (h : cp ≤ 1114111) : ∀ x ∈ putN cp, x < 256 := by
 unfold putN
 intro x hx
 repeat' split at hx
 all_goals (simp at hx; omega)
theorem putU_byte (cp : Nat) : ∀ x ∈ putU cp, x < 256 := by
 unfold putU
 split
 ·next h => exact putN_byte cp (by simp [okU] at h; omega)
 ·exact putN_byte _ (by omega)
def By (x : Nat) : AV := .int .u8 x
def Co (x : Nat) : AV := .int .i64 x
@[go_sem] theorem By.plainL (l : List Nat) : plainL (l.map By) = true := plainL_map (fun _ => rfl) l
@[go_sem] theorem By.ltL (l : List Nat) (n : Nat) : ltL n (l.map By) = true := ltL_iff.2 fun x hx => by obtain ⟨y, _, rfl⟩ := List.mem_map.1 hx; rfl
@[go_sem] theorem By.ok (l : List Nat) : okEls 1 (l.map By) = true := by
 unfold okEls; rw [List.all_eq_true]; intro x hx; obtain ⟨y, _, rfl⟩ := List.mem_map.1 hx; rfl
@[go_sem] theorem Co.plainL (l : List Nat) : plainL (l.map Co) = true := plainL_map (fun _ => rfl) l
@[go_sem] theorem Co.ltL (l : List Nat) (n : Nat) : ltL n (l.map Co) = true := ltL_iff.2 fun x hx => by obtain ⟨y, _, rfl⟩ := List.mem_map.1 hx; rfl
@[go_sem] theorem Co.ok (l : List Nat) : okEls 1 (l.map Co) = true := by
 unfold okEls; rw [List.all_eq_true]; intro x hx; obtain ⟨y, _, rfl⟩ := List.mem_map.1 hx; rfl
def CoI (c : Int) : AV := .int .i64 c
@[go_sem] theorem CoI.plainL (l : List Int) : plainL (l.map CoI) = true := plainL_map (fun _ => rfl) l
@[go_sem] theorem CoI.ltL (l : List Int) (n : Nat) : ltL n (l.map CoI) = true := ltL_iff.2 fun x hx => by obtain ⟨y, _, rfl⟩ := List.mem_map.1 hx; rfl
@[go_sem] theorem CoI.ok (l : List Int) : okEls 1 (l.map CoI) = true := by
 unfold okEls; rw [List.all_eq_true]; intro x hx; obtain ⟨y, _, rfl⟩ := List.mem_map.1 hx; rfl
def PmV (s : List Int) : AV := .agg [.sval false (s.map CoI)]
theorem PmV_plain (s : List Int) : (PmV s).plain = true := by simp only [PmV, go_sem, CoI.plainL]
theorem PmV_lt (n : Nat) (s : List Int) : (PmV s).lt n = true := by simp only [PmV, go_sem, CoI.ltL]
@[go_sem] theorem PmV.plainL (l : List (List Int)) : plainL (l.map PmV) = true := plainL_map PmV_plain l
@[go_sem] theorem PmV.ltL (l : List (List Int)) (n : Nat) : ltL n (l.map PmV) = true := ltL_iff.2 fun x hx => by obtain ⟨y, _, rfl⟩ := List.mem_map.1 hx; exact PmV_lt n y
@[go_sem] theorem PmV.ok (l : List (List Int)) : okEls 1 (l.map PmV) = true := by
 unfold okEls; rw [List.all_eq_true]; intro x hx; obtain ⟨y, _, rfl⟩ := List.mem_map.1 hx; rfl
attribute [go_sem] PmV CoI
def badN (n : Int) : Bool := decide (n < -1) || decide (9999 < n)
def badS (s : List Int) : Bool := s.length == 0 || (decide (6 < s.length) || s.any badN)
def okRow (l : List (List Int)) : Bool := decide (l.length ≤ 16) && (!(l == [[-1]]) && !l.any badS)
def parE (l : List (List Int)) : Int := if okRow l then 0 else 150
theorem pBadN (w0 : World) (S : List Blk) (n : Int) (R : Rt) (h : R (.ret (.bool (badN n))) S) : ACall Tryz.prog w0 78 [.int .i64 n] S R := by
 unfold badN at h
 cases hd : decide (n < -1) <;> rw [hd] at h
 all_goals
  refine en Tryz.func78 rfl Tryz.ntmps78 fun hO => ?_
  repeat' first | refine st ?_ | (refine br ?_ ?_; all_goals (intro hb; try simp only [bnn] at hb)) | fail
  (apply f_ret; iterate 7 (· simp only [go_sem, *, Tryz.results78]; try rfl))
  first | exact h | (simpa using h)
theorem take_any {α : Type} {p : α → Bool} {l : List α} {k : Nat} {x : α} (hx : l[k]? = some x) (h : (l.take k).any p = false) (hp : p x = false) : (l.take (k + 1)).any p = false := by
 rw [List.take_add_one, hx]
 simp [h, hp]
theorem any_at {α : Type} {p : α → Bool} {l : List α} {k : Nat} {x : α} (hx : l[k]? = some x) (hp : p x = true) : l.any p = true :=
 List.any_eq_true.2 ⟨x, List.mem_of_getElem? hx, hp⟩
set_option maxHeartbeats 4000000 in
theorem pIndexI (w0 : World) (S : List Blk) (s : List Int) (hs : s.length ≤ 1000000) (R : Rt) (h : ∀ i : Int, decide (0 ≤ i) = s.any badN → R (.ret (.int .i64 i)) S) : ACall Tryz.prog w0 159 [.sval false (s.map CoI), .fn (.func 78) [] []] S R := by
 have hb := pBadN w0
 refine en Tryz.func159 rfl Tryz.ntmps159 fun hO => ?_
 repeat' first | refine st ?_ | (refine br ?_ ?_; all_goals (intro hb; try simp only [bnn] at hb)) | fail
 refine x_ind (fun (k : Nat) env S' => k ≤ s.length ∧ (s.take k).any badN = false ∧ env 1000000 = .dfr [] ∧ env 0 = .sval false (s.map CoI) ∧ env 1 = .fn (.func 78) [] [] ∧ env 7 = .int .i64 s.length ∧ env 8 = .int .i64 (k : Int) ∧ S' = S) (fun k => s.length - k) 0 ?_ ?_
 ·exact ⟨Nat.zero_le _, by simp, by (simp only [go_sem, *]; try rfl), by (simp only [go_sem, *]; try rfl), by (simp only [go_sem, *]; try rfl), by (simp only [go_sem, *]; try rfl), by (simp only [go_sem, *]; try rfl), rfl⟩
 ·rintro k env S' ⟨hk, hp, e0, f0, f1, f7, f8, rfl⟩ IH
  have HI := Lib.hid IH
  have H := Lib.hid h
  clear IH h
  by_cases hlt : k < s.length
  ·obtain ⟨x, hx⟩ : ∃ x, s[k]? = some x := ⟨_, List.getElem?_eq_getElem hlt⟩
   have h1 : decide ((k : Int) < (s.length : Int)) = true := by simpa using hlt
   have hw : IntKind.i64.wrap ((k : Int) + 1) = ((k + 1 : Nat) : Int) := by rw [IntWalk.i64_in _ (by omega)]; omega
   have hpx := hb
   cases hbx : badN x with
   | true =>
    have hh := H.out (k : Int) (by rw [any_at hx hbx]; simp)
    have hb' := fun S' => hb S' x
    rw [hbx] at hb'
    clear hk hp hlt HI hb hpx
    repeat' first | refine st ?_ | (refine ca ?_; first | apply hb') | (refine br ?_ ?_; all_goals (intro hb; try simp only [bnn] at hb)) | fail
    (apply f_ret; iterate 7 (· simp only [go_sem, *, Tryz.results159]; try rfl))
    exact hh
   | false =>
    have hb' := fun S' => hb S' x
    rw [hbx] at hb'
    have Hn := Lib.hid (take_any hx hp hbx)
    have Hlt := Lib.hid hlt
    clear hk hp hlt hb hpx hbx
    repeat' first | refine st ?_ | (refine ca ?_; first | apply hb') | (refine br ?_ ?_; all_goals (intro hb; try simp only [bnn] at hb)) | fail
    refine HI.out (k + 1) _ _ (by have := Hlt.out; omega) ⟨Hlt.out, Hn.out, ?_, ?_, ?_, ?_, ?_, rfl⟩
    all_goals (simp only [go_sem, *]; try rfl)
  ·have h1 : decide ((k : Int) < (s.length : Int)) = false := by simpa using hlt
   have hk' : k = s.length := by omega
   rw [hk', List.take_length] at hp
   have hh := H.out (-1) (by rw [hp]; decide)
   clear hlt hk hk' HI hp
   repeat' first | refine st ?_ | (refine br ?_ ?_; all_goals (intro hb; try simp only [bnn] at hb)) | fail
   (apply f_ret; iterate 7 (· simp only [go_sem, *, Tryz.results159]; try rfl))
   exact hh
theorem pContI (w0 : World) (S : List Blk) (s : List Int) (hs : s.length ≤ 1000000) (R : Rt) (h : R (.ret (.bool (s.any badN))) S) : ACall Tryz.prog w0 77 [.sval false (s.map CoI), .fn (.func 78) [] []] S R := by
 have hi := fun S' => pIndexI w0 S' s hs
 generalize s.any badN = b at h hi
 refine en Tryz.func77 rfl Tryz.ntmps77 fun hO => ?_
 repeat' first | refine st ?_ | (refine ca ?_; first | apply hi) | (refine br ?_ ?_; all_goals (intro hb; try simp only [bnn] at hb)) | fail
 intro i hi2
 repeat' first | refine st ?_ | (refine br ?_ ?_; all_goals (intro hb; try simp only [bnn] at hb)) | fail
 (apply f_ret; iterate 7 (· simp only [go_sem, *, Tryz.results77]; try rfl))
 exact h
set_option maxHeartbeats 4000000 in
theorem pBadS (w0 : World) (S : List Blk) (s : List Int) (hs : s.length ≤ 1000000) (R : Rt) (h : R (.ret (.bool (badS s))) S) : ACall Tryz.prog w0 76 [PmV s] S R := by
 have hc := fun S' => pContI w0 S' s hs
 unfold badS at h
 unfold PmV
 have e1 : ((s.length : Int) == 0) = (s.length == 0) := by rw [Bool.eq_iff_iff]; simp
 have e2 : decide ((6 : Int) < (s.length : Int)) = decide (6 < s.length) := by rw [Bool.eq_iff_iff]; simp; omega
 cases d1 : s.length == 0 <;> cases d2 : decide (6 < s.length) <;> rw [d1, d2] at h <;> rw [d1] at e1 <;> rw [d2] at e2 <;> clear d1 d2 hs
 all_goals
  refine en Tryz.func76 rfl Tryz.ntmps76 fun hO => ?_
  repeat' first | refine st ?_ | (refine ca ?_; first | apply hc) | (refine br ?_ ?_; all_goals (intro hb; try simp only [bnn] at hb)) | fail
  (apply f_ret; iterate 7 (· simp only [go_sem, *, Tryz.results76]; try rfl))
  first | exact h | (simpa using h)
set_option maxHeartbeats 4000000 in
theorem pIndexP (w0 : World) (S : List Blk) (l : List (List Int)) (hl : l.length ≤ 1000000) (hs : ∀ s ∈ l, s.length ≤ 1000000) (R : Rt) (h : ∀ i : Int, decide (0 ≤ i) = l.any badS → R (.ret (.int .i64 i)) S) : ACall Tryz.prog w0 160 [.sval false (l.map PmV), .fn (.func 76) [] []] S R := by
 have hb := pBadS w0
 have Hs := Lib.hid hs
 clear hs
 refine en Tryz.func160 rfl Tryz.ntmps160 fun hO => ?_
 repeat' first | refine st ?_ | (refine br ?_ ?_; all_goals (intro hb; try simp only [bnn] at hb)) | fail
 refine x_ind (fun (k : Nat) env S' => k ≤ l.length ∧ (l.take k).any badS = false ∧ env 1000000 = .dfr [] ∧ env 0 = .sval false (l.map PmV) ∧ env 1 = .fn (.func 76) [] [] ∧ env 7 = .int .i64 l.length ∧ env 8 = .int .i64 (k : Int) ∧ S' = S) (fun k => l.length - k) 0 ?_ ?_
 ·exact ⟨Nat.zero_le _, by simp, by (simp only [go_sem, *]; try rfl), by (simp only [go_sem, *]; try rfl), by (simp only [go_sem, *]; try rfl), by (simp only [go_sem, *]; try rfl), by (simp only [go_sem, *]; try rfl), rfl⟩
 ·rintro k env S' ⟨hk, hp, e0, f0, f1, f7, f8, rfl⟩ IH
  have HI := Lib.hid IH
  have H := Lib.hid h
  clear IH h
  by_cases hlt : k < l.length
  ·obtain ⟨x, hx⟩ : ∃ x, l[k]? = some x := ⟨_, List.getElem?_eq_getElem hlt⟩
   have h1 : decide ((k : Int) < (l.length : Int)) = true := by simpa using hlt
   have hw : IntKind.i64.wrap ((k : Int) + 1) = ((k + 1 : Nat) : Int) := by rw [IntWalk.i64_in _ (by omega)]; omega
   have hb' := fun S' => hb S' x (Hs.out x (List.mem_of_getElem? hx))
   unfold PmV at hb'
   cases hbx : badS x with
   | true =>
    have hh := H.out (k : Int) (by rw [any_at hx hbx]; simp)
    rw [hbx] at hb'
    clear hk hp hlt HI hb hl
    repeat' first | refine st ?_ | (refine ca ?_; first | apply hb') | (refine br ?_ ?_; all_goals (intro hb; try simp only [bnn] at hb)) | fail
    (apply f_ret; iterate 7 (· simp only [go_sem, *, Tryz.results160]; try rfl))
    exact hh
   | false =>
    rw [hbx] at hb'
    have Hn := Lib.hid (take_any hx hp hbx)
    have Hlt := Lib.hid hlt
    clear hk hp hlt hb hbx
    repeat' first | refine st ?_ | (refine ca ?_; first | apply hb') | (refine br ?_ ?_; all_goals (intro hb; try simp only [bnn] at hb)) | fail
    refine HI.out (k + 1) _ _ (by have := Hlt.out; omega) ⟨Hlt.out, Hn.out, ?_, ?_, ?_, ?_, ?_, rfl⟩
    all_goals (simp only [go_sem, *]; try rfl)
  ·have h1 : decide ((k : Int) < (l.length : Int)) = false := by simpa using hlt
   have hk' : k = l.length := by omega
   rw [hk', List.take_length] at hp
   have hh := H.out (-1) (by rw [hp]; decide)
   clear hlt hk hk' HI hp
   repeat' first | refine st ?_ | (refine br ?_ ?_; all_goals (intro hb; try simp only [bnn] at hb)) | fail
   (apply f_ret; iterate 7 (· simp only [go_sem, *, Tryz.results160]; try rfl))
   exact hh
theorem pContP (w0 : World) (S : List Blk) (l : List (List Int)) (hl : l.length ≤ 1000000) (hs : ∀ s ∈ l, s.length ≤ 1000000) (R : Rt) (h : R (.ret (.bool (l.any badS))) S) : ACall Tryz.prog w0 80 [.sval false (l.map PmV), .fn (.func 76) [] []] S R := by
 have hi := fun S' => pIndexP w0 S' l hl hs
 generalize l.any badS = b at h hi
 clear hs
 refine en Tryz.func80 rfl Tryz.ntmps80 fun hO => ?_
 repeat' first | refine st ?_ | (refine ca ?_; first | apply hi) | (refine br ?_ ?_; all_goals (intro hb; try simp only [bnn] at hb)) | fail
 intro i hi2
 repeat' first | refine st ?_ | (refine br ?_ ?_; all_goals (intro hb; try simp only [bnn] at hb)) | fail
 (apply f_ret; iterate 7 (· simp only [go_sem, *, Tryz.results80]; try rfl))
 exact h
theorem row_one {l : List (List Int)} (h : l.length = 1) : ∃ s, l = [s] := List.length_eq_one_iff.1 h
theorem int_one {l : List Int} (h : l.length = 1) : ∃ s, l = [s] := List.length_eq_one_iff.1 h
theorem row_cases (l : List (List Int)) : (((l.length : Int) == 1) = false ∧ (l == [[-1]]) = false) ∨ ∃ s, l = [s] ∧ (((s.length : Int) == 1) = false ∧ (l == [[-1]]) = false ∨ ∃ n, s = [n] ∧ (l == [[-1]]) = (n == -1)) := by
 by_cases h : l.length = 1
 ·right
  obtain ⟨s, rfl⟩ := row_one h
  refine ⟨s, rfl, ?_⟩
  by_cases h2 : s.length = 1
  ·right
   obtain ⟨n, rfl⟩ := int_one h2
   exact ⟨n, rfl, by simp⟩
  ·left
   refine ⟨by rw [beq_eq_false_iff_ne]; omega, ?_⟩
   rw [beq_eq_false_iff_ne]
   intro e
   simp at e
   rw [e] at h2
   exact h2 rfl
 ·left
  refine ⟨by rw [beq_eq_false_iff_ne]; omega, ?_⟩
  rw [beq_eq_false_iff_ne]
  intro e
  rw [e] at h
  exact h rfl
set_option maxHeartbeats 4000000 in
theorem pEmpty (w0 : World) (S : List Blk) (l : List (List Int)) (R : Rt) (h : R (.ret (.bool (l == [[-1]]))) S) : ACall Tryz.prog w0 79 [.sval false (l.map PmV)] S R := by
 have e0 : (((1 : Nat) : Int) == 1) = true := by decide
 rcases row_cases l with ⟨e1, e2⟩ | ⟨s, rfl, ⟨e1, e2⟩ | ⟨n, rfl, e2⟩⟩
 ·rw [e2] at h
  clear e2
  refine en Tryz.func79 rfl Tryz.ntmps79 fun hO => ?_
  repeat' first | refine st ?_ | (refine br ?_ ?_; all_goals (intro hb; try simp only [bnn] at hb)) | fail
  (apply f_ret; iterate 7 (· simp only [go_sem, *, Tryz.results79]; try rfl))
  exact h
 ·rw [e2] at h
  clear e2
  simp only [List.map_cons, List.map_nil, PmV]
  refine en Tryz.func79 rfl Tryz.ntmps79 fun hO => ?_
  repeat' first | refine st ?_ | (refine br ?_ ?_; all_goals (intro hb; try simp only [bnn] at hb)) | fail
  (apply f_ret; iterate 7 (· simp only [go_sem, *, Tryz.results79]; try rfl))
  exact h
 ·rw [e2] at h
  clear e2
  simp only [List.map_cons, List.map_nil, PmV, CoI]
  refine en Tryz.func79 rfl Tryz.ntmps79 fun hO => ?_
  repeat' first | refine st ?_ | (refine br ?_ ?_; all_goals (intro hb; try simp only [bnn] at hb)) | fail
  (apply f_ret; iterate 7 (· simp only [go_sem, *, Tryz.results79]; try rfl))
  exact h
theorem cast_lt (a b : Nat) : decide ((a : Int) < (b : Int)) = decide (a < b) := by rw [Bool.eq_iff_iff]; simp
def ShortR (l : List (List Int)) : Prop := l.length ≤ 1000000 ∧ ∀ s ∈ l, s.length ≤ 1000000
set_option maxHeartbeats 4000000 in
theorem pCheck (w0 : World) (S : List Blk) (l : List (List Int)) (hl : ShortR l) (R : Rt) (h : R (.ret (.int .i64 (parE l))) S) : ACall Tryz.prog w0 36 [.sval false (l.map PmV)] S R := by
 have hc := fun S' => pContP w0 S' l hl.1 hl.2
 have he := fun S' => pEmpty w0 S' l
 unfold parE okRow at h
 have e2 : decide ((16 : Int) < (l.length : Int)) = decide (16 < l.length) := cast_lt 16 l.length
 have e3 : decide (l.length ≤ 16) = !decide (16 < l.length) := by rw [Bool.eq_iff_iff]; simp
 rw [e3] at h
 cases d1 : decide (16 < l.length) <;> cases d2 : l == [[-1]] <;> cases d3 : l.any badS <;> rw [d1, d2, d3] at h <;> rw [d1] at e2 <;> rw [d2] at he <;> rw [d3] at hc <;> clear d1 d2 d3 e3 hl
 all_goals
  refine en Tryz.func36 rfl Tryz.ntmps36 fun hO => ?_
  repeat' first | refine st ?_ | (refine ca ?_; first | apply hc | apply he) | (refine br ?_ ?_; all_goals (intro hb; try simp only [bnn] at hb)) | fail
  (apply f_ret; iterate 7 (· simp only [go_sem, *, Tryz.results36]; try rfl))
  exact h
def valP (l : List (List Int)) (i none : Int) : Int :=
 if i < 0 then none else match l[i.toNat]? with
  | some (n :: _) => if n < 0 then none else n
  | _ => none
set_option maxHeartbeats 4000000 in
theorem value_any (w0 : World) (S : List Blk) (l : List (List Int)) (i none : Int) (R : Rt) (h : R (.ret (.int .i64 (valP l i none))) S) : ACall Tryz.prog w0 142 [.sval false (l.map PmV), .int .i64 i, .int .i64 none] S R ∧ ACall Tryz.prog w0 126 [.sval false (l.map PmV), .int .i64 i, .int .i64 none] S R := by
 unfold valP at h
 by_cases h0 : i < 0
 ·rw [if_pos h0] at h
  have d0 : decide (i < 0) = true := decide_eq_true h0
  clear h0
  constructor
  ·refine en Tryz.func142 rfl Tryz.ntmps142 fun hO => ?_
   repeat' first | refine st ?_ | (refine br ?_ ?_; all_goals (intro hb; try simp only [bnn] at hb)) | fail
   (apply f_ret; iterate 7 (· simp only [go_sem, *, Tryz.results142]; try rfl))
   exact h
  ·refine en Tryz.func126 rfl Tryz.ntmps126 fun hO => ?_
   repeat' first | refine st ?_ | (refine br ?_ ?_; all_goals (intro hb; try simp only [bnn] at hb)) | fail
   (apply f_ret; iterate 7 (· simp only [go_sem, *, Tryz.results126]; try rfl))
   exact h
 ·rw [if_neg h0] at h
  obtain ⟨k, rfl⟩ : ∃ k : Nat, i = (k : Int) := ⟨i.toNat, by omega⟩
  rw [Int.toNat_natCast] at h
  have d0 : decide ((k : Int) < 0) = false := decide_eq_false h0
  cases hx : l[k]? with
  | none =>
   rw [hx] at h
   have d1 : decide ((l.length : Int) ≤ (k : Int)) = true := by simp; simpa using hx
   clear h0 hx
   constructor
   ·refine en Tryz.func142 rfl Tryz.ntmps142 fun hO => ?_
    repeat' first | refine st ?_ | (refine br ?_ ?_; all_goals (intro hb; try simp only [bnn] at hb)) | fail
    (apply f_ret; iterate 7 (· simp only [go_sem, *, Tryz.results142]; try rfl))
    exact h
   ·refine en Tryz.func126 rfl Tryz.ntmps126 fun hO => ?_
    repeat' first | refine st ?_ | (refine br ?_ ?_; all_goals (intro hb; try simp only [bnn] at hb)) | fail
    (apply f_ret; iterate 7 (· simp only [go_sem, *, Tryz.results126]; try rfl))
    exact h
  | some s =>
   rw [hx] at h
   have hk : k < l.length := (List.getElem?_eq_some_iff.1 hx).1
   have d1 : decide ((l.length : Int) ≤ (k : Int)) = false := by simp; omega
   clear h0 hk
   cases s with
   | nil =>
    have e0 : (((0 : Nat) : Int) == 0) = true := by decide
    constructor
    ·refine en Tryz.func142 rfl Tryz.ntmps142 fun hO => ?_
     repeat' first | refine st ?_ | (refine br ?_ ?_; all_goals (intro hb; try simp only [bnn] at hb)) | fail
     (apply f_ret; iterate 7 (· simp only [go_sem, *, Tryz.results142]; try rfl))
     exact h
    ·refine en Tryz.func126 rfl Tryz.ntmps126 fun hO => ?_
     repeat' first | refine st ?_ | (refine br ?_ ?_; all_goals (intro hb; try simp only [bnn] at hb)) | fail
     (apply f_ret; iterate 7 (· simp only [go_sem, *, Tryz.results126]; try rfl))
     exact h
   | cons n s =>
    have e0 : ((((n :: s).length : Nat) : Int) == 0) = false := by rw [beq_eq_false_iff_ne]; simp; omega
    simp only [List.length_cons] at e0
    simp only at h
    by_cases hn : n < 0
    ·rw [if_pos hn] at h
     have d2 : decide (n < 0) = true := decide_eq_true hn
     clear hn
     constructor
     ·refine en Tryz.func142 rfl Tryz.ntmps142 fun hO => ?_
      repeat' first | refine st ?_ | (refine br ?_ ?_; all_goals (intro hb; try simp only [bnn] at hb)) | fail
      (apply f_ret; iterate 7 (· simp only [go_sem, *, Tryz.results142]; try rfl))
      exact h
     ·refine en Tryz.func126 rfl Tryz.ntmps126 fun hO => ?_
      repeat' first | refine st ?_ | (refine br ?_ ?_; all_goals (intro hb; try simp only [bnn] at hb)) | fail
      (apply f_ret; iterate 7 (· simp only [go_sem, *, Tryz.results126]; try rfl))
      exact h
    ·rw [if_neg hn] at h
     have d2 : decide (n < 0) = false := decide_eq_false hn
     clear hn
     constructor
     ·refine en Tryz.func142 rfl Tryz.ntmps142 fun hO => ?_
      repeat' first | refine st ?_ | (refine br ?_ ?_; all_goals (intro hb; try simp only [bnn] at hb)) | fail
      (apply f_ret; iterate 7 (· simp only [go_sem, *, Tryz.results142]; try rfl))
      exact h
     ·refine en Tryz.func126 rfl Tryz.ntmps126 fun hO => ?_
      repeat' first | refine st ?_ | (refine br ?_ ?_; all_goals (intro hb; try simp only [bnn] at hb)) | fail
      (apply f_ret; iterate 7 (· simp only [go_sem, *, Tryz.results126]; try rfl))
      exact h
set_option maxHeartbeats 1000000 in
theorem uLen (w0 : World) (S : List Blk) (b : Nat) (R : Rt) (h : R (.ret (.int .i64 (lenU b : Nat))) S) : ACall Tryz.prog w0 257 [.int .u8 b] S R := by
 refine en Tryz.func257 rfl Tryz.ntmps257 fun hO => ?_
 repeat' first | refine st ?_ | (refine br ?_ ?_; all_goals (intro hb; try simp only [bnn] at hb)) | fail
 all_goals (apply f_ret; iterate 7 (· simp only [go_sem, *, Tryz.results257]; try rfl))
 all_goals
  refine cast (congrArg (fun v => R (.ret (.int .i64 v)) S) ?_) h
  simp only [decide_eq_true_eq, decide_eq_false_iff_not] at *
  unfold lenU
  repeat' split
  all_goals first | omega | rfl | decide
set_option maxHeartbeats 1000000 in
theorem uSecond (w0 : World) (S : List Blk) (b : Nat) (R : Rt) (h : R (.ret (.tup [.int .u8 (loU b : Nat), .int .u8 (hiU b : Nat)])) S) : ACall Tryz.prog w0 258 [.int .u8 b] S R := by
 refine en Tryz.func258 rfl Tryz.ntmps258 fun hO => ?_
 repeat' first | refine st ?_ | (refine br ?_ ?_; all_goals (intro hb; try simp only [bnn] at hb)) | fail
 all_goals (apply f_ret; iterate 7 (· simp only [go_sem, *, Tryz.results258]; try rfl))
 all_goals
  simp only [beq_iff_eq, beq_eq_false_iff_ne, ne_eq, decide_eq_true_eq, decide_eq_false_iff_not] at *
  have e1 : (b = 224) = ((b : Int) = 224) := by simp; omega
  have e2 : (b = 237) = ((b : Int) = 237) := by simp; omega
  have e3 : (b = 240) = ((b : Int) = 240) := by simp; omega
  have e4 : (b = 244) = ((b : Int) = 244) := by simp; omega
  unfold loU hiU at h
  simpa [e1, e2, e3, e4, *] using h
set_option maxHeartbeats 1000000 in
theorem uCheck (w0 : World) (S : List Blk) (cp : Nat) (R : Rt) (h : R (.ret (.bool (okU cp))) S) : ACall Tryz.prog w0 45 [.int .i64 cp] S R := by
 refine en Tryz.func45 rfl Tryz.ntmps45 fun hO => ?_
 repeat' first | refine st ?_ | (refine br ?_ ?_; all_goals (intro hb; try simp only [bnn] at hb)) | fail
 all_goals (apply f_ret; iterate 7 (· simp only [go_sem, *, Tryz.results45]; try rfl))
 all_goals
  have e : (cp : Int).fdiv (2 ^ min 11 64) = ((cp / 2048 : Nat) : Int) := by
   rw [show (2 : Int) ^ min 11 64 = 2048 by decide, Int.fdiv_eq_ediv_of_nonneg _ (by omega)]
   omega
  refine cast (congrArg (fun v => R (.ret (.bool v)) S) ?_) h
  simp only [decide_eq_true_eq, decide_eq_false_iff_not] at hb
  unfold okU
  first
  | (rw [Bool.eq_iff_iff, e]; simp only [Bool.and_eq_true, decide_eq_true_eq, Bool.not_eq_true', Bool.and_eq_false_iff, decide_eq_false_iff_not, bne_iff_ne, ne_eq]; omega)
  | (rw [Bool.and_eq_false_iff]; left; simp only [decide_eq_false_iff_not]; omega)
set_option maxHeartbeats 4000000 in
theorem uKind (w0 : World) (S : List Blk) (p : List Nat) (h1 : p ≠ []) (h4 : p.length ≤ 4) (R : Rt) (h : R (.ret (.int .i64 (kindU p : Nat))) S) : ACall Tryz.prog w0 212 [.sval false (p.map By)] S R := by
 match p, h1, h4 with
 | [a], _, _ =>
  have hl := fun S' => uLen w0 S' a
  have hs := fun S' => uSecond w0 S' a
  obtain ⟨n, hn⟩ : ∃ n, lenU a = n := ⟨_, rfl⟩
  obtain ⟨lo, hlo⟩ : ∃ n, loU a = n := ⟨_, rfl⟩
  obtain ⟨hi, hhi⟩ : ∃ n, hiU a = n := ⟨_, rfl⟩
  have hk : kindU [a] = if n < ([] : List Nat).length + 1 then 0 else if contU lo hi ([] : List Nat) then (if ([] : List Nat).length + 1 < n then 1 else 2) else 0 := by rw [kindU, hn, hlo, hhi]
  rw [hn] at hl
  rw [hlo, hhi] at hs
  simp only [List.map_cons, List.map_nil, By]
  clear h1 h4 hn hlo hhi
  have HK := Lib.hid hk
  clear hk
  refine en Tryz.func212 rfl Tryz.ntmps212 fun hO => ?_
  repeat' first | refine st ?_ | (refine ca ?_; first | apply hl | apply hs) | (refine br ?_ ?_; all_goals (intro hb; try simp only [bnn] at hb)) | apply x_loop | apply x_lp | fail
  all_goals (apply f_ret; iterate 7 (· simp only [go_sem, *, Tryz.results212]; try rfl))
  all_goals
   refine cast (congrArg (fun v => R (.ret (.int .i64 v)) S) ?_) h
   rw [HK.out]
   simp only [contU, List.length_cons, List.length_nil, Bool.and_eq_true, decide_eq_true_eq, decide_eq_false_iff_not, Bool.true_eq_false, and_true] at *
   repeat' split
   all_goals first | omega | rfl | (exact absurd trivial (by assumption))
 | [a, b], _, _ =>
  have hl := fun S' => uLen w0 S' a
  have hs := fun S' => uSecond w0 S' a
  obtain ⟨n, hn⟩ : ∃ n, lenU a = n := ⟨_, rfl⟩
  obtain ⟨lo, hlo⟩ : ∃ n, loU a = n := ⟨_, rfl⟩
  obtain ⟨hi, hhi⟩ : ∃ n, hiU a = n := ⟨_, rfl⟩
  have hk : kindU [a, b] = if n < ([b] : List Nat).length + 1 then 0 else if contU lo hi ([b] : List Nat) then (if ([b] : List Nat).length + 1 < n then 1 else 2) else 0 := by rw [kindU, hn, hlo, hhi]
  rw [hn] at hl
  rw [hlo, hhi] at hs
  simp only [List.map_cons, List.map_nil, By]
  clear h1 h4 hn hlo hhi
  have HK := Lib.hid hk
  clear hk
  refine en Tryz.func212 rfl Tryz.ntmps212 fun hO => ?_
  repeat' first | refine st ?_ | (refine ca ?_; first | apply hl | apply hs) | (refine br ?_ ?_; all_goals (intro hb; try simp only [bnn] at hb)) | apply x_loop | apply x_lp | fail
  all_goals (apply f_ret; iterate 7 (· simp only [go_sem, *, Tryz.results212]; try rfl))
  all_goals
   refine cast (congrArg (fun v => R (.ret (.int .i64 v)) S) ?_) h
   rw [HK.out]
   simp only [contU, List.length_cons, List.length_nil, Bool.and_eq_true, decide_eq_true_eq, decide_eq_false_iff_not, Bool.true_eq_false, and_true] at *
   repeat' split
   all_goals first | omega | rfl | (exact absurd trivial (by assumption))
 | [a, b, c], _, _ =>
  have hl := fun S' => uLen w0 S' a
  have hs := fun S' => uSecond w0 S' a
  obtain ⟨n, hn⟩ : ∃ n, lenU a = n := ⟨_, rfl⟩
  obtain ⟨lo, hlo⟩ : ∃ n, loU a = n := ⟨_, rfl⟩
  obtain ⟨hi, hhi⟩ : ∃ n, hiU a = n := ⟨_, rfl⟩
  have hk : kindU [a, b, c] = if n < ([b, c] : List Nat).length + 1 then 0 else if contU lo hi ([b, c] : List Nat) then (if ([b, c] : List Nat).length + 1 < n then 1 else 2) else 0 := by rw [kindU, hn, hlo, hhi]
  rw [hn] at hl
  rw [hlo, hhi] at hs
  simp only [List.map_cons, List.map_nil, By]
  clear h1 h4 hn hlo hhi
  have HK := Lib.hid hk
  clear hk
  refine en Tryz.func212 rfl Tryz.ntmps212 fun hO => ?_
  repeat' first | refine st ?_ | (refine ca ?_; first | apply hl | apply hs) | (refine br ?_ ?_; all_goals (intro hb; try simp only [bnn] at hb)) | apply x_loop | apply x_lp | fail
  all_goals (apply f_ret; iterate 7 (· simp only [go_sem, *, Tryz.results212]; try rfl))
  all_goals
   refine cast (congrArg (fun v => R (.ret (.int .i64 v)) S) ?_) h
   rw [HK.out]
   simp only [contU, List.length_cons, List.length_nil, Bool.and_eq_true, decide_eq_true_eq, decide_eq_false_iff_not, Bool.true_eq_false, and_true] at *
   repeat' split
   all_goals first | omega | rfl | (exact absurd trivial (by assumption))
 | [a, b, c, d], _, _ =>
  have hl := fun S' => uLen w0 S' a
  have hs := fun S' => uSecond w0 S' a
  obtain ⟨n, hn⟩ : ∃ n, lenU a = n := ⟨_, rfl⟩
  obtain ⟨lo, hlo⟩ : ∃ n, loU a = n := ⟨_, rfl⟩
  obtain ⟨hi, hhi⟩ : ∃ n, hiU a = n := ⟨_, rfl⟩
  have hk : kindU [a, b, c, d] = if n < ([b, c, d] : List Nat).length + 1 then 0 else if contU lo hi ([b, c, d] : List Nat) then (if ([b, c, d] : List Nat).length + 1 < n then 1 else 2) else 0 := by rw [kindU, hn, hlo, hhi]
  rw [hn] at hl
  rw [hlo, hhi] at hs
  simp only [List.map_cons, List.map_nil, By]
  clear h1 h4 hn hlo hhi
  have HK := Lib.hid hk
  clear hk
  refine en Tryz.func212 rfl Tryz.ntmps212 fun hO => ?_
  repeat' first | refine st ?_ | (refine ca ?_; first | apply hl | apply hs) | (refine br ?_ ?_; all_goals (intro hb; try simp only [bnn] at hb)) | apply x_loop | apply x_lp | fail
  all_goals (apply f_ret; iterate 7 (· simp only [go_sem, *, Tryz.results212]; try rfl))
  all_goals
   refine cast (congrArg (fun v => R (.ret (.int .i64 v)) S) ?_) h
   rw [HK.out]
   simp only [contU, List.length_cons, List.length_nil, Bool.and_eq_true, decide_eq_true_eq, decide_eq_false_iff_not, Bool.true_eq_false, and_true] at *
   repeat' split
   all_goals first | omega | rfl | (exact absurd trivial (by assumption))
theorem uRight (w0 : World) (S : List Blk) (p : List Nat) (h4 : p.length ≤ 4) (R : Rt) (h : R (.ret (.bool (rightU p))) S) : ACall Tryz.prog w0 164 [.sval false (p.map By)] S R := by
 by_cases hp : p = []
 ·subst hp
  rw [right_nil] at h
  simp only [List.map_nil]
  have e0 : (((0 : Nat) : Int) == 0) = true := rfl
  clear h4
  refine en Tryz.func164 rfl Tryz.ntmps164 fun hO => ?_
  repeat' first | refine st ?_ | (refine br ?_ ?_; all_goals (intro hb; try simp only [bnn] at hb)) | fail
  (apply f_ret; iterate 7 (· simp only [go_sem, *, Tryz.results164]; try rfl))
  exact h
 ·have hk := fun S' => uKind w0 S' p hp h4
  have hl : ((p.length : Int) == 0) = false := by
   rw [beq_eq_false_iff_ne]
   intro e
   exact hp (List.length_eq_zero_iff.1 (by omega))
  have hr : rightU p = ((kindU p : Int) == 1) := by
   unfold rightU
   rw [decide_eq_false hp, Bool.false_or, Bool.eq_iff_iff, decide_eq_true_eq, beq_iff_eq]
   omega
  rw [hr] at h
  clear hr hp h4
  refine en Tryz.func164 rfl Tryz.ntmps164 fun hO => ?_
  repeat' first | refine st ?_ | (refine ca ?_; first | apply hk) | (refine br ?_ ?_; all_goals (intro hb; try simp only [bnn] at hb)) | fail
  (apply f_ret; iterate 7 (· simp only [go_sem, *, Tryz.results164]; try rfl))
  exact h
theorem shl6 {c x : Nat} (hc : c < 32768) (hx : x < 64) : IntKind.i64.wrap (((BitVec.ofInt IntKind.i64.bits (IntKind.i64.wrap ((c : Int) * 2 ^ min 6 64)) ||| BitVec.ofInt IntKind.i64.bits (x : Int)).toNat : Nat) : Int) = ((c * 64 + x : Nat) : Int) := by
 have e1 : IntKind.i64.wrap ((c : Int) * 2 ^ min 6 64) = ((c * 64 : Nat) : Int) := by
  rw [show (2 : Int) ^ min 6 64 = 64 by decide, IntWalk.i64_in _ (by omega)]
  omega
 rw [e1, BitVec.toNat_or]
 have e2 : (BitVec.ofInt IntKind.i64.bits ((c * 64 : Nat) : Int)).toNat = c * 64 := by
  show (BitVec.ofInt 64 _).toNat = _
  rw [BitVec.toNat_ofInt]; omega
 have e3 : (BitVec.ofInt IntKind.i64.bits (x : Int)).toNat = x := by
  show (BitVec.ofInt 64 _).toNat = _
  rw [BitVec.toNat_ofInt]; omega
 rw [e2, e3]
 have e4 : c * 64 ||| x = c * 64 + x := by
  have := Nat.shiftLeft_add_eq_or_of_lt (b := x) (i := 6) (by omega) c
  rw [Nat.shiftLeft_eq] at this
  exact this.symm
 rw [e4]
 exact IntWalk.i64_in _ (by omega)
theorem and63 {b : Nat} (hb : b < 256) : IntKind.i64.wrap (IntKind.u8.wrap (((BitVec.ofInt IntKind.u8.bits (b : Int) &&& BitVec.ofInt IntKind.u8.bits 63).toNat : Nat) : Int)) = ((b % 64 : Nat) : Int) := by
 rw [BitVec.toNat_and]
 have e1 : (BitVec.ofInt IntKind.u8.bits (b : Int)).toNat = b := by
  show (BitVec.ofInt 8 _).toNat = _
  rw [BitVec.toNat_ofInt]; omega
 have e2 : (BitVec.ofInt IntKind.u8.bits 63).toNat = 63 := by decide
 rw [e1, e2, show b &&& 63 = b % 64 from Nat.and_two_pow_sub_one_eq_mod b 6, IntWalk.u8_in _ (by omega)]
 exact IntWalk.i64_in _ (by omega)
theorem andM {b k : Nat} (hb : b < 256) (hk : k ≤ 8) : IntKind.i64.wrap (((BitVec.ofInt IntKind.i64.bits (b : Int) &&& BitVec.ofInt IntKind.i64.bits ((2 ^ k - 1 : Nat) : Int)).toNat : Nat) : Int) = ((b % 2 ^ k : Nat) : Int) := by
 rw [BitVec.toNat_and]
 have h2 : 2 ^ k ≤ 2 ^ 8 := Nat.pow_le_pow_right (by omega) hk
 have h0 : 0 < 2 ^ k := Nat.two_pow_pos k
 have e1 : (BitVec.ofInt IntKind.i64.bits (b : Int)).toNat = b := by
  show (BitVec.ofInt 64 _).toNat = _
  rw [BitVec.toNat_ofInt]; omega
 have e2 : (BitVec.ofInt IntKind.i64.bits ((2 ^ k - 1 : Nat) : Int)).toNat = 2 ^ k - 1 := by
  show (BitVec.ofInt 64 _).toNat = _
  rw [BitVec.toNat_ofInt]; omega
 rw [e1, e2, Nat.and_two_pow_sub_one_eq_mod b k]
 have := Nat.mod_lt b h0
 exact IntWalk.i64_in _ (by omega)
set_option maxHeartbeats 4000000 in
theorem uCode (w0 : World) (S : List Blk) (p : List Nat) (hk : kindU p = 2) (hb : ∀ x ∈ p, x < 256) (R : Rt) (h : R (.ret (.int .i64 (codeU p : Nat))) S) : ACall Tryz.prog w0 259 [.sval false (p.map By)] S R := by
 match p with
 | [] => cases hk
 | [a] =>
  have h : R (.ret (.int .i64 a)) S := h
  simp only [List.map_cons, List.map_nil, By]
  have ha := hb a (by simp)
  have hw : IntKind.i64.wrap (a : Int) = a := IntWalk.i64_in _ (by omega)
  clear hb hk
  refine en Tryz.func259 rfl Tryz.ntmps259 fun hO => ?_
  repeat' first | refine st ?_ | (refine br ?_ ?_; all_goals (intro hb; try simp only [bnn] at hb)) | apply x_loop | apply x_lp | fail
  all_goals (apply f_ret; iterate 7 (· simp only [go_sem, *, Tryz.results259]; try rfl))
  exact h
 | [a, b] =>
  simp only [List.map_cons, List.map_nil, By]
  have ha := hb a (by simp)
  have hw : IntKind.i64.wrap (a : Int) = a := IntWalk.i64_in _ (by omega)
  have gf : (255 : Int).fdiv (2 ^ min (IntKind.i64.wrap (((2 : Nat) : Int) + 1)).toNat 64) = ((2 ^ 5 - 1 : Nat) : Int) := by decide
  have ga := andM (b := a) (k := 5) ha (by omega)
  obtain ⟨c0, hc0⟩ : ∃ c0, a % 2 ^ 5 = c0 := ⟨_, rfl⟩
  have hc0l : c0 < 32 := by rw [← hc0]; exact Nat.mod_lt _ (by decide)
  rw [hc0] at ga
  have gb := and63 (hb b (by simp))
  have mb : b % 64 < 64 := Nat.mod_lt _ (by omega)
  have q1 := shl6 (c := c0) (x := b % 64) (by omega) mb
  obtain ⟨c1, hc1⟩ : ∃ cc, c0 * 64 + b % 64 = cc := ⟨_, rfl⟩
  have hc1l : c1 < 2048 := by omega
  rw [hc1] at q1
  have hcode : codeU [a, b] = c1 := by
   have e : codeU [a, b] = a % 2 ^ (7 - (1 + 1)) * 64 + b % 64 := rfl
   rw [e]
   have e2 : a % 2 ^ 5 = a % (2 ^ (7 - (1 + 1))) := rfl
   omega
  rw [hcode] at h
  clear hb hk hcode ha
  simp only [IntKind.bits] at ga gb q1
  refine en Tryz.func259 rfl Tryz.ntmps259 fun hO => ?_
  repeat' first | refine st ?_ | (refine br ?_ ?_; all_goals (intro hb; try simp only [bnn] at hb)) | apply x_loop | apply x_lp | fail
  all_goals (apply f_ret; iterate 7 (· simp only [go_sem, *, Tryz.results259]; try rfl))
  exact h
 | [a, b, c] =>
  simp only [List.map_cons, List.map_nil, By]
  have ha := hb a (by simp)
  have hw : IntKind.i64.wrap (a : Int) = a := IntWalk.i64_in _ (by omega)
  have gf : (255 : Int).fdiv (2 ^ min (IntKind.i64.wrap (((3 : Nat) : Int) + 1)).toNat 64) = ((2 ^ 4 - 1 : Nat) : Int) := by decide
  have ga := andM (b := a) (k := 4) ha (by omega)
  obtain ⟨c0, hc0⟩ : ∃ c0, a % 2 ^ 4 = c0 := ⟨_, rfl⟩
  have hc0l : c0 < 16 := by rw [← hc0]; exact Nat.mod_lt _ (by decide)
  rw [hc0] at ga
  have gb := and63 (hb b (by simp))
  have mb : b % 64 < 64 := Nat.mod_lt _ (by omega)
  have q1 := shl6 (c := c0) (x := b % 64) (by omega) mb
  obtain ⟨c1, hc1⟩ : ∃ cc, c0 * 64 + b % 64 = cc := ⟨_, rfl⟩
  have hc1l : c1 < 1024 := by omega
  rw [hc1] at q1
  have gc := and63 (hb c (by simp))
  have mc : c % 64 < 64 := Nat.mod_lt _ (by omega)
  have q2 := shl6 (c := c1) (x := c % 64) (by omega) mc
  obtain ⟨c2, hc2⟩ : ∃ cc, c1 * 64 + c % 64 = cc := ⟨_, rfl⟩
  have hc2l : c2 < 65536 := by omega
  rw [hc2] at q2
  have hcode : codeU [a, b, c] = c2 := by
   have e : codeU [a, b, c] = (a % 2 ^ (7 - (2 + 1)) * 64 + b % 64) * 64 + c % 64 := rfl
   rw [e]
   have e2 : a % 2 ^ 4 = a % (2 ^ (7 - (2 + 1))) := rfl
   omega
  rw [hcode] at h
  clear hb hk hcode ha
  simp only [IntKind.bits] at ga gb q1 gc q2
  refine en Tryz.func259 rfl Tryz.ntmps259 fun hO => ?_
  repeat' first | refine st ?_ | (refine br ?_ ?_; all_goals (intro hb; try simp only [bnn] at hb)) | apply x_loop | apply x_lp | fail
  all_goals (apply f_ret; iterate 7 (· simp only [go_sem, *, Tryz.results259]; try rfl))
  exact h
 | [a, b, c, d] =>
  simp only [List.map_cons, List.map_nil, By]
  have ha := hb a (by simp)
  have hw : IntKind.i64.wrap (a : Int) = a := IntWalk.i64_in _ (by omega)
  have gf : (255 : Int).fdiv (2 ^ min (IntKind.i64.wrap (((4 : Nat) : Int) + 1)).toNat 64) = ((2 ^ 3 - 1 : Nat) : Int) := by decide
  have ga := andM (b := a) (k := 3) ha (by omega)
  obtain ⟨c0, hc0⟩ : ∃ c0, a % 2 ^ 3 = c0 := ⟨_, rfl⟩
  have hc0l : c0 < 8 := by rw [← hc0]; exact Nat.mod_lt _ (by decide)
  rw [hc0] at ga
  have gb := and63 (hb b (by simp))
  have mb : b % 64 < 64 := Nat.mod_lt _ (by omega)
  have q1 := shl6 (c := c0) (x := b % 64) (by omega) mb
  obtain ⟨c1, hc1⟩ : ∃ cc, c0 * 64 + b % 64 = cc := ⟨_, rfl⟩
  have hc1l : c1 < 512 := by omega
  rw [hc1] at q1
  have gc := and63 (hb c (by simp))
  have mc : c % 64 < 64 := Nat.mod_lt _ (by omega)
  have q2 := shl6 (c := c1) (x := c % 64) (by omega) mc
  obtain ⟨c2, hc2⟩ : ∃ cc, c1 * 64 + c % 64 = cc := ⟨_, rfl⟩
  have hc2l : c2 < 32768 := by omega
  rw [hc2] at q2
  have gd := and63 (hb d (by simp))
  have md : d % 64 < 64 := Nat.mod_lt _ (by omega)
  have q3 := shl6 (c := c2) (x := d % 64) (by omega) md
  obtain ⟨c3, hc3⟩ : ∃ cc, c2 * 64 + d % 64 = cc := ⟨_, rfl⟩
  have hc3l : c3 < 2097152 := by omega
  rw [hc3] at q3
  have hcode : codeU [a, b, c, d] = c3 := by
   have e : codeU [a, b, c, d] = ((a % 2 ^ (7 - (3 + 1)) * 64 + b % 64) * 64 + c % 64) * 64 + d % 64 := rfl
   rw [e]
   have e2 : a % 2 ^ 3 = a % (2 ^ (7 - (3 + 1))) := rfl
   omega
  rw [hcode] at h
  clear hb hk hcode ha
  simp only [IntKind.bits] at ga gb q1 gc q2 gd q3
  refine en Tryz.func259 rfl Tryz.ntmps259 fun hO => ?_
  repeat' first | refine st ?_ | (refine br ?_ ?_; all_goals (intro hb; try simp only [bnn] at hb)) | apply x_loop | apply x_lp | fail
  all_goals (apply f_ret; iterate 7 (· simp only [go_sem, *, Tryz.results259]; try rfl))
  exact h
 | a :: b :: c :: d :: e :: r =>
  obtain ⟨h1, _⟩ := kind2 hk
  have : lenU a ≤ 4 := by
   unfold lenU
   repeat' split
   all_goals omega
  simp at h1
  omega
@[go_sem] theorem By.all1 (l : List Nat) : ((l.map By).all fun el => el.cells.length == 1) = true := by
 rw [List.all_eq_true]; intro x hx; obtain ⟨y, _, rfl⟩ := List.mem_map.1 hx; rfl
set_option maxHeartbeats 1000000 in
theorem uFlush (w0 : World) (S : List Blk) (p : List Nat) (hr : rightU p = true) (R : Rt) (h : R (.ret (.sval false ((flushU p).map Co))) S) : ACall Tryz.prog w0 269 [.sval false (p.map By)] S R := by
 have hri := fun S' => uRight w0 S' p (Nat.le_succ_of_le (right_len hr))
 rw [hr] at hri
 by_cases hp : p = []
 ·subst hp
  have h : R (.ret (.sval false [])) S := h
  have e0 : decide ((0 : Int) < ((0 : Nat) : Int)) = false := rfl
  simp only [List.map_nil]
  clear hr hri
  refine en Tryz.func269 rfl Tryz.ntmps269 fun hO => ?_
  repeat' first | refine st ?_ | (refine br ?_ ?_; all_goals (intro hb; try simp only [bnn] at hb)) | fail
  (apply f_ret; iterate 7 (· simp only [go_sem, *, Tryz.results269]; try rfl))
  exact h
 ·have hl : decide ((0 : Int) < (p.length : Int)) = true := by
   cases p with
   | nil => exact absurd rfl hp
   | cons a r => simp only [List.length_cons, decide_eq_true_eq]; omega
  rw [flushU, if_neg hp] at h
  have h : R (.ret (.sval false [AV.int .i64 65533])) S := h
  clear hr hp
  refine en Tryz.func269 rfl Tryz.ntmps269 fun hO => ?_
  repeat' first | refine st ?_ | (refine ca ?_; first | apply hri) | (refine br ?_ ?_; all_goals (intro hb; try simp only [bnn] at hb)) | fail
  (apply f_ret; iterate 7 (· simp only [go_sem, *, Tryz.results269]; try rfl))
  exact h
def stepV (q : List Nat × List Nat) : AV := .tup [.sval false (q.1.map By), .sval false (q.2.map Co)]
set_option maxHeartbeats 4000000 in
theorem uStepG (w0 : World) (S : List Blk) (p : List Nat) (b : Nat) (hb : b < 256) (hr : rightU p = true) (hp : ∀ x ∈ p, x < 256)
    (hrec : p ≠ [] → ∀ (S' : List Blk) (R : Rt), R (.ret (stepV (step1 b))) S' → ACall Tryz.prog w0 213 [.sval false [], .int .u8 b] S' R)
    (R : Rt) (h : R (.ret (stepV (stepU p b))) S) : ACall Tryz.prog w0 213 [.sval false (p.map By), .int .u8 b] S R := by
  have hl3 := right_len hr
  have hri := fun S' => uRight w0 S' p (Nat.le_succ_of_le hl3)
  rw [hr] at hri
  have hk := fun S' => uKind w0 S' (p ++ [b]) (by simp) (by simp; omega)
  have hb1 : (p.length + 1) * 1 ≤ 140737488355328 := by omega
  have happ : List.map By p ++ [AV.int .u8 b] = List.map By (p ++ [b]) := by rw [List.map_append]; rfl
  have hlen : (p ++ [b]).length = p.length + 1 := by simp
  have htk : List.take p.length (List.map By p) = List.map By p := List.take_of_length_le (by simp)
  have hc := fun S' (hh : kindU (p ++ [b]) = 2) => uCode w0 S' (p ++ [b]) hh (by
    intro x hx
    rcases List.mem_append.1 hx with hx | hx
    · exact hp x hx
    · rw [List.mem_singleton.1 hx]; exact hb)
  have hall := By.all1 p
  simp only [AV.cells] at hall
  have okA := By.ok p
  simp only [okEls, AV.cells] at okA
  have hle : (p.length : Int) ≤ (p.length : Int) := Int.le_refl _
  have hbe : (p.length == p.length) = true := by simp
  unfold stepU at h
  have Happ := Lib.hid happ
  have Hc := Lib.hid hc
  have Hrec := Lib.hid hrec
  have H := Lib.hid h
  clear hp hb happ hc hrec h hl3 hr
  refine en Tryz.func213 rfl Tryz.ntmps213 fun hO => ?_
  repeat' first | refine st ?_ | (refine ca ?_; first | apply hri) | (refine br ?_ ?_; all_goals (intro hb; try simp only [bnn] at hb)) | fail
  rw [Happ.out]
  refine x_mark (S.length + 1) (by (simp only [go_sem, *]; try rfl)) ?_
  try simp only [go_sem, *]
  obtain ⟨kd, hkd⟩ : ∃ kd, kindU (p ++ [b]) = kd := ⟨_, rfl⟩
  rw [hkd] at hk
  have h012 : kd = 0 ∨ kd = 1 ∨ kd = 2 := by
    rw [← hkd]
    cases p with
    | nil => simp only [List.nil_append, kindU]; repeat' split
             all_goals simp
    | cons a r => simp only [List.cons_append, kindU]; repeat' split
                  all_goals simp
  rcases h012 with rfl | rfl | rfl
  · have hh := H.out
    rw [hkd, if_neg (by decide), if_neg (by decide)] at hh
    clear hkd
    by_cases hp : p = []
    · subst hp
      rw [if_pos rfl] at hh
      have e0 : (((0 : Nat) : Int) == 0) = true := rfl
      unfold stepV at hh
      simp only [List.map_cons, List.map_nil, Co] at hh
      repeat' first | refine st ?_ | (refine ca ?_; first | apply hk) | (refine br ?_ ?_; all_goals (intro hb; try simp only [bnn] at hb)) | fail
      (apply f_ret; iterate 7 (· simp only [go_sem, *, Tryz.results213]; try rfl))
      exact hh
    · rw [if_neg hp] at hh
      have hrec := Hrec.out hp
      have hl0 : ((p.length : Int) == 0) = false := by
        rw [beq_eq_false_iff_ne]
        intro e
        exact hp (List.length_eq_zero_iff.1 (by omega))
      have hq1 : (step1 b).2.length ≤ 1 := by unfold step1; split <;> (try split) <;> simp
      generalize step1 b = q at hrec hh hq1
      obtain ⟨q1, q2⟩ := q
      unfold stepV at hh hrec
      simp only [List.map_cons, Co] at hh hrec hq1
      have okC := Co.ok q2
      simp only [okEls, AV.cells] at okC
      have hb8 : (1 + q2.length) * 8 ≤ 140737488355328 := by omega
      clear hp hq1
      repeat' first | refine st ?_ | (refine ca ?_; first | apply hk | apply hrec) | (refine br ?_ ?_; all_goals (intro hb; try simp only [bnn] at hb)) | fail
      have hcm : (1 + q2.length = q2.length + 1) = True := by rw [Nat.add_comm]; simp
      (apply f_ret; iterate 7 (· simp only [go_sem, *, Tryz.results213]; try rfl))
      exact hh
  · have hh := H.out
    rw [hkd, if_neg (by decide), if_pos rfl] at hh
    unfold stepV at hh
    simp only [List.map_nil] at hh
    clear hkd
    repeat' first | refine st ?_ | (refine ca ?_; first | apply hk) | (refine br ?_ ?_; all_goals (intro hb; try simp only [bnn] at hb)) | fail
    (apply f_ret; iterate 7 (· simp only [go_sem, *, Tryz.results213]; try rfl))
    exact hh
  · have hh := H.out
    rw [hkd, if_pos rfl] at hh
    have hc := fun S' => Hc.out S' hkd
    unfold stepV at hh
    simp only [List.map_cons, List.map_nil, Co] at hh
    clear hkd
    repeat' first | refine st ?_ | (refine ca ?_; first | apply hk | apply hc) | (refine br ?_ ?_; all_goals (intro hb; try simp only [bnn] at hb)) | fail
    (apply f_ret; iterate 7 (· simp only [go_sem, *, Tryz.results213]; try rfl))
    exact hh
theorem uStep1 (w0 : World) (S : List Blk) (b : Nat) (hb : b < 256) (R : Rt) (h : R (.ret (stepV (step1 b))) S) : ACall Tryz.prog w0 213 [.sval false [], .int .u8 b] S R := by
 refine uStepG w0 S [] b hb rfl (by simp) (fun hh => absurd rfl hh) R ?_
 have e : stepU [] b = step1 b := by unfold stepU step1; simp
 rw [e]; exact h
theorem uStep (w0 : World) (S : List Blk) (p : List Nat) (b : Nat) (hb : b < 256) (hr : rightU p = true) (hp : ∀ x ∈ p, x < 256) (R : Rt) (h : R (.ret (stepV (stepU p b))) S) :
  ACall Tryz.prog w0 213 [.sval false (p.map By), .int .u8 b] S R :=
 uStepG w0 S p b hb hr hp (fun _ S' R h => uStep1 w0 S' b hb R h) R h
theorem u8wrap (m : Nat) : IntKind.u8.wrap (m : Int) = ((m % 256 : Nat) : Int) := by
 have h : IntKind.u8.wrap (m : Int) = (m : Int) % 256 := by simp [IntKind.wrap, IntKind.signed, IntKind.bits]
 rw [h]
 omega
theorem or128 : ∀ x : Nat, x < 256 → IntKind.u8.wrap (((BitVec.ofInt IntKind.u8.bits 128 ||| BitVec.ofInt IntKind.u8.bits (IntKind.u8.wrap (((BitVec.ofInt IntKind.u8.bits (x : Int) &&& BitVec.ofInt IntKind.u8.bits 63).toNat : Nat) : Int))).toNat : Nat) : Int) = ((128 + x % 64 : Nat) : Int) := by decide +kernel
theorem or192 : ∀ x : Nat, x < 32 → IntKind.u8.wrap (((BitVec.ofInt IntKind.u8.bits 192 ||| BitVec.ofInt IntKind.u8.bits (x : Int)).toNat : Nat) : Int) = ((192 + x : Nat) : Int) := by decide +kernel
theorem or224 : ∀ x : Nat, x < 16 → IntKind.u8.wrap (((BitVec.ofInt IntKind.u8.bits 224 ||| BitVec.ofInt IntKind.u8.bits (x : Int)).toNat : Nat) : Int) = ((224 + x : Nat) : Int) := by decide +kernel
theorem or240 : ∀ x : Nat, x < 8 → IntKind.u8.wrap (((BitVec.ofInt IntKind.u8.bits 240 ||| BitVec.ofInt IntKind.u8.bits (x : Int)).toNat : Nat) : Int) = ((240 + x : Nat) : Int) := by decide +kernel
theorem fdp (cp k : Nat) (hk : k ≤ 64) : (cp : Int).fdiv (2 ^ min k 64) = ((cp / 2 ^ k : Nat) : Int) := by
 rw [Nat.min_eq_left hk, Int.fdiv_eq_ediv_of_nonneg _ (Int.le_of_lt (Int.pow_pos (by decide)))]
 rw [Int.natCast_ediv, Int.natCast_pow]
 rfl
set_option maxHeartbeats 1000000 in
theorem uPut1 (w0 : World) (S : List Blk) (a cp k : Nat) (hk : k ≤ 64) (ha : S[a]? = some (.cells [.int .i64 cp])) (R : Rt) (h : R (.ret (.int .u8 (128 + cp / 2 ^ k % 64 : Nat))) S) :
  ACall Tryz.prog w0 270 [.int .i64 k, .own a 0] S R := by
 have hf := fdp cp k hk
 have hw := u8wrap (cp / 2 ^ k)
 have hx := or128 (cp / 2 ^ k % 256) (Nat.mod_lt _ (by decide))
 have hm : cp / 2 ^ k % 256 % 64 = cp / 2 ^ k % 64 := by omega
 have h0 : (0 : Int) ≤ (k : Int) := by omega
 rw [hm] at hx
 simp only [IntKind.bits] at hx
 clear hm hk
 refine en Tryz.func270 rfl Tryz.ntmps270 fun hO => ?_
 repeat' first | refine st ?_ | (refine br ?_ ?_; all_goals (intro hb; try simp only [bnn] at hb)) | fail
 (apply f_ret; iterate 7 (· simp only [go_sem, *, Tryz.results270]; try rfl))
 exact h
def putS (cp : Nat) : List UInt8 := (putU cp).map UInt8.ofNat
set_option maxHeartbeats 4000000 in
theorem uPut (w0 : World) (S : List Blk) (cp : Nat) (hb : cp < 4294967296) (R : Rt) (h : R (.ret (.str (putS cp))) S) : ACall Tryz.prog w0 229 [.int .i64 cp] S R := by
 have hck := fun S' => uCheck w0 S' cp
 unfold putS putU at h
 cases hok : okU cp with
 | false =>
  rw [hok, if_neg (by decide)] at h
  rw [hok] at hck
  have h : R (.ret (.str [239, 191, 189])) S := h
  have c0 := fun S' ha => uPut1 w0 S' S.length 65533 0 (by decide) ha
  have c6 := fun S' ha => uPut1 w0 S' S.length 65533 6 (by decide) ha
  have q6 : (128 + 65533 / 2 ^ 6 % 64 : Nat) = 191 := rfl
  have q0 : (128 + 65533 / 2 ^ 0 % 64 : Nat) = 189 := rfl
  rw [q0] at c0
  rw [q6] at c6
  have k0 : (((0 : Nat) : Int)) = 0 := rfl
  have k6 : (((6 : Nat) : Int)) = 6 := rfl
  have kc : (((65533 : Nat) : Int)) = 65533 := rfl
  rw [k0] at c0
  rw [k6] at c6
  rw [kc] at c0 c6
  have z1 : IntKind.u8.wrap (((BitVec.ofInt IntKind.u8.bits 224 ||| BitVec.ofInt IntKind.u8.bits (IntKind.u8.wrap ((65533 : Int).fdiv (2 ^ min 12 64)))).toNat : Nat) : Int) = 239 := by decide
  simp only [IntKind.bits] at z1
  clear q0 q6 k0 k6 kc hb hok
  refine en Tryz.func229 rfl Tryz.ntmps229 fun hO => ?_
  repeat' first | refine st ?_ | (refine ca ?_; first | apply hck | (apply c0; (· simp only [go_sem, *]; try rfl)) | (apply c6; (· simp only [go_sem, *]; try rfl))) | (refine br ?_ ?_; all_goals (intro hb; try simp only [bnn] at hb)) | refine sd ?_ | apply pl_nil | (apply c_end; (· decide +kernel)) | refine bd ?_ ?_ | (refine cd ?_; first | apply hck | (apply c0; (· simp only [go_sem, *]; try rfl)) | (apply c6; (· simp only [go_sem, *]; try rfl))) | fail
  (apply f_ret; iterate 7 (· simp only [go_sem, *, Tryz.results229]; try rfl))
  exact h
 | true =>
  rw [hok, if_pos rfl] at h
  rw [hok] at hck
  have hle : cp ≤ 1114111 := by
   simp only [okU, Bool.and_eq_true, decide_eq_true_eq] at hok
   exact hok.1
  have c0 := fun S' ha => uPut1 w0 S' S.length cp 0 (by decide) ha
  have c6 := fun S' ha => uPut1 w0 S' S.length cp 6 (by decide) ha
  have c12 := fun S' ha => uPut1 w0 S' S.length cp 12 (by decide) ha
  have k0 : (((0 : Nat) : Int)) = 0 := rfl
  have k6 : (((6 : Nat) : Int)) = 6 := rfl
  have k12 : (((12 : Nat) : Int)) = 12 := rfl
  rw [k0] at c0
  rw [k6] at c6
  rw [k12] at c12
  have f6 := fdp cp 6 (by decide)
  have f12 := fdp cp 12 (by decide)
  have f18 := fdp cp 18 (by decide)
  have w0' := u8wrap cp
  have w6 := u8wrap (cp / 2 ^ 6)
  have w12 := u8wrap (cp / 2 ^ 12)
  have w18 := u8wrap (cp / 2 ^ 18)
  clear hok hb k0 k6 k12
  by_cases h1 : cp < 128
  ·have d1 : decide ((cp : Int) < 128) = true := by simpa using (show (cp : Int) < 128 by omega)
   have e : putN cp = [cp] := by unfold putN; rw [if_pos h1]
   rw [e] at h
   rw [Nat.mod_eq_of_lt (show cp < 256 by omega)] at w0'
   have h : R (.ret (.str [UInt8.ofNat cp])) S := h
   clear e h1 hle c0 c6 c12 f6 f12 f18 w6 w12 w18
   refine en Tryz.func229 rfl Tryz.ntmps229 fun hO => ?_
   repeat' first | refine st ?_ | (refine ca ?_; first | apply hck) | (refine br ?_ ?_; all_goals (intro hb; try simp only [bnn] at hb)) | refine sd ?_ | apply pl_nil | (apply c_end; (· decide +kernel)) | refine bd ?_ ?_ | (refine cd ?_; first | apply hck) | fail
   (apply f_ret; iterate 7 (· simp only [go_sem, *, Tryz.results229]; try rfl))
   exact h
  have d1 : decide ((cp : Int) < 128) = false := by simp; omega
  by_cases h2 : cp < 2048
  ·have d2 : decide ((cp : Int) < 2048) = true := by simp; omega
   have e : putN cp = [192 + cp / 2 ^ 6, 128 + cp / 2 ^ 0 % 64] := by unfold putN; rw [if_neg h1, if_pos h2]; simp
   rw [e] at h
   have h : R (.ret (.str [UInt8.ofNat (192 + cp / 2 ^ 6), UInt8.ofNat (128 + cp / 2 ^ 0 % 64)])) S := h
   have hx : cp / 2 ^ 6 < 32 := by omega
   have o := or192 _ hx
   rw [Nat.mod_eq_of_lt (show cp / 2 ^ 6 < 256 by omega)] at w6
   simp only [IntKind.bits] at o
   clear e h1 h2 hle c6 c12 f12 f18 w0' w12 w18
   refine en Tryz.func229 rfl Tryz.ntmps229 fun hO => ?_
   repeat' first | refine st ?_ | (refine ca ?_; first | apply hck | (apply c0; (· simp only [go_sem, *]; try rfl))) | (refine br ?_ ?_; all_goals (intro hb; try simp only [bnn] at hb)) | refine sd ?_ | apply pl_nil | (apply c_end; (· decide +kernel)) | refine bd ?_ ?_ | (refine cd ?_; first | apply hck | (apply c0; (· simp only [go_sem, *]; try rfl))) | fail
   (apply f_ret; iterate 7 (· simp only [go_sem, *, Tryz.results229]; try rfl))
   exact h
  have d2 : decide ((cp : Int) < 2048) = false := by simp; omega
  by_cases h3 : cp < 65536
  ·have d3 : decide ((cp : Int) < 65536) = true := by simp; omega
   have e : putN cp = [224 + cp / 2 ^ 12, 128 + cp / 2 ^ 6 % 64, 128 + cp / 2 ^ 0 % 64] := by unfold putN; rw [if_neg h1, if_neg h2, if_pos h3]; simp
   rw [e] at h
   have h : R (.ret (.str [UInt8.ofNat (224 + cp / 2 ^ 12), UInt8.ofNat (128 + cp / 2 ^ 6 % 64), UInt8.ofNat (128 + cp / 2 ^ 0 % 64)])) S := h
   have hx : cp / 2 ^ 12 < 16 := by omega
   have o := or224 _ hx
   rw [Nat.mod_eq_of_lt (show cp / 2 ^ 12 < 256 by omega)] at w12
   simp only [IntKind.bits] at o
   clear e h1 h2 h3 hle c12 f6 f18 w0' w6 w18
   refine en Tryz.func229 rfl Tryz.ntmps229 fun hO => ?_
   repeat' first | refine st ?_ | (refine ca ?_; first | apply hck | (apply c0; (· simp only [go_sem, *]; try rfl)) | (apply c6; (· simp only [go_sem, *]; try rfl))) | (refine br ?_ ?_; all_goals (intro hb; try simp only [bnn] at hb)) | refine sd ?_ | apply pl_nil | (apply c_end; (· decide +kernel)) | refine bd ?_ ?_ | (refine cd ?_; first | apply hck | (apply c0; (· simp only [go_sem, *]; try rfl)) | (apply c6; (· simp only [go_sem, *]; try rfl))) | fail
   (apply f_ret; iterate 7 (· simp only [go_sem, *, Tryz.results229]; try rfl))
   exact h
  have d3 : decide ((cp : Int) < 65536) = false := by simp; omega
  have e : putN cp = [240 + cp / 2 ^ 18, 128 + cp / 2 ^ 12 % 64, 128 + cp / 2 ^ 6 % 64, 128 + cp / 2 ^ 0 % 64] := by unfold putN; rw [if_neg h1, if_neg h2, if_neg h3]; simp
  rw [e] at h
  have h : R (.ret (.str [UInt8.ofNat (240 + cp / 2 ^ 18), UInt8.ofNat (128 + cp / 2 ^ 12 % 64), UInt8.ofNat (128 + cp / 2 ^ 6 % 64), UInt8.ofNat (128 + cp / 2 ^ 0 % 64)])) S := h
  have hx : cp / 2 ^ 18 < 8 := by omega
  have o := or240 _ hx
  rw [Nat.mod_eq_of_lt (show cp / 2 ^ 18 < 256 by omega)] at w18
  simp only [IntKind.bits] at o
  clear e h1 h2 h3 hle f6 f12 w0' w6 w12
  refine en Tryz.func229 rfl Tryz.ntmps229 fun hO => ?_
  repeat' first | refine st ?_ | (refine ca ?_; first | apply hck | (apply c0; (· simp only [go_sem, *]; try rfl)) | (apply c6; (· simp only [go_sem, *]; try rfl)) | (apply c12; (· simp only [go_sem, *]; try rfl))) | (refine br ?_ ?_; all_goals (intro hb; try simp only [bnn] at hb)) | refine sd ?_ | apply pl_nil | (apply c_end; (· decide +kernel)) | refine bd ?_ ?_ | (refine cd ?_; first | apply hck | (apply c0; (· simp only [go_sem, *]; try rfl)) | (apply c6; (· simp only [go_sem, *]; try rfl)) | (apply c12; (· simp only [go_sem, *]; try rfl))) | fail
  (apply f_ret; iterate 7 (· simp only [go_sem, *, Tryz.results229]; try rfl))
  exact h
def Tab (w0 : World) : Prop := Lib.TabIs Tryz.prog w0 "internal/strconv.uint64pow10" .u64 Lib.pow10Tab
theorem itoa (w0 : World) (hT : Tab w0) (S : List Blk) (n : Int) (h1 : -9223372036854775808 ≤ n) (h2 : n ≤ 9223372036854775807) (R : Rt) (h : R (.ret (.str (Lib.itoa n))) S) : ACall Tryz.prog w0 86 [.int .i64 n] S R := by
 refine ACall.lib (vs := [.int .i64 n]) (v := .str (Lib.itoa n)) (Go.Proofs.enters_of Tryz.func86 (by kernel_rfl) rfl) rfl rfl ?_ h
 intro w hb
 refine (Go.Proofs.Any.strconv_Itoa Go.Proofs.Tryz.laysM171 n h1 h2 w (Lib.tabBelow_of_tabIs hT w hb)).mono ?_
 rintro e w' ⟨rfl, k, os, rfl⟩
 exact ⟨rfl, Lib.below_grow _ w (Nat.le_refl _) k os⟩
set_option maxHeartbeats 400000 in
theorem copyCheck0 (w0 : World) (S : List Blk) (a : Nat) (v : AV) (ha : S[a]? = some (.cells [.nilp, v] (some 90))) (hv : v.lt S.length = true) (hal : a < S.length) (R : Rt) (h : R (.ret (.tup [])) (S.set a (.cells [.own a 0, v] (some 90)))) :
  ACall Tryz.prog w0 87 [.own a 0] S R := by
 refine en Tryz.func87 rfl Tryz.ntmps87 fun hO => ?_
 repeat' first | refine st ?_ | (refine br ?_ ?_; all_goals (intro hb; try simp only [bnn] at hb)) | fail
 refine x_ident (f := 176) (by (simp only [go_sem, *]; try rfl)) rfl rfl (fun c w => ?_) rfl (by (simp only [go_sem, *]; try rfl)) ?_
 ·rw [run_callFunc_extern Tryz.func176 (by kernel_rfl) (by kernel_rfl) (by kernel_rfl) (by kernel_rfl), Lib.run_noEscape]; rfl
 simp only [putA]
 repeat' first | refine st ?_ | (refine br ?_ ?_; all_goals (intro hb; try simp only [bnn] at hb)) | fail
 (apply f_endX; iterate 5 (· simp only [go_sem, *, Tryz.results87]; try rfl))
 ·exact OuterOk.set hO (by simp [Blk.ltB, ltL, AV.lt, hv, hal])
 ·simp
 ·exact h
theorem copyCheck1 (w0 : World) (S : List Blk) (a : Nat) (v : AV) (ha : S[a]? = some (.cells [.own a 0, v] (some 90))) (R : Rt) (h : R (.ret (.tup [])) S) :
  ACall Tryz.prog w0 87 [.own a 0] S R := by
 refine en Tryz.func87 rfl Tryz.ntmps87 fun hO => ?_
 repeat' first | refine st ?_ | (refine br ?_ ?_; all_goals (intro hb; try simp only [bnn] at hb)) | fail
 (apply f_end; iterate 7 (· simp only [go_sem, *, Tryz.results87]; try rfl))
 exact h
theorem all_true {α : Type _} (l : List α) : l.all (fun _ => true) = true := by simp
theorem pl_skip2 {ops : Array Oper} {i p : Nat} {q : List Nat} {prot : List (Nat × List Nat)} {S S' : List Blk} (hp : relB ops i p = false) (h : ProtL ops i prot S S') : ProtL ops i ((p, q) :: prot) S S' := pl_skip hp h
def Bld (S : List Blk) (a g i : Nat) (ad : AV) (bs : List UInt8) : Prop :=
 S[a]? = some (.cells [ad, .sown g i bs.length] (some 90)) ∧ S[g]? = some (.arr 5 1 0 i (bs.map bAV)) ∧ (ad = .nilp ∨ ad = .own a 0)
set_option maxHeartbeats 1000000 in
theorem writeString (w0 : World) (S : List Blk) (a g i : Nat) (ad : AV) (bs s : List UInt8) (hb : Bld S a g i ad bs) (hlen : (bs.length + s.length) * 1 ≤ 140737488355328) (R : Rt)
  (h : R (.ret (.tup [.int .i64 s.length, .inil])) ((S.set g (.arr 5 1 0 (i + 1) ((bs ++ s).map bAV))).set a (.cells [.own a 0, .sown g (i + 1) (bs.length + s.length)] (some 90)))) :
  ACall Tryz.prog w0 40 [.own a 0, .str s] S R := by
 obtain ⟨ha, hg, had⟩ := hb
 have hal := (List.getElem?_eq_some_iff.1 ha).1
 have hgl := (List.getElem?_eq_some_iff.1 hg).1
 have hne : a ≠ g := by rintro rfl; rw [ha] at hg; cases hg
 obtain ⟨S1, hS1⟩ : ∃ S1, S.set a (.cells [.own a 0, .sown g i bs.length] (some 90)) = S1 := ⟨_, rfl⟩
 have hck : ∀ R : AOut → List Blk → Prop, R (.ret (.tup [])) S1 → ACall Tryz.prog w0 87 [.own a 0] S R := by
  intro R hR
  rcases had with rfl | rfl
  ·exact copyCheck0 w0 S a _ ha (by simpa [AV.lt] using hgl) hal R (hS1 ▸ hR)
  ·have : S.set a (.cells [.own a 0, .sown g i bs.length] (some 90)) = S := set_self ha
   rw [this] at hS1
   exact copyCheck1 w0 S a _ ha R (hS1 ▸ hR)
 have h1 : S1[a]? = some (.cells [.own a 0, .sown g i bs.length] (some 90)) := by rw [← hS1]; simp [hal]
 have h2 : S1[g]? = some (.arr 5 1 0 i (bs.map bAV)) := by rw [← hS1, List.getElem?_set_ne hne]; exact hg
 have hl1 : S1.length = S.length := by rw [← hS1]; simp
 have hbl : (bs.map bAV).length = bs.length := by simp
 have h3 : ∀ B, (S1.set g B)[a]? = some (.cells [.own a 0, .sown g i bs.length] (some 90)) := by intro B; rw [List.getElem?_set_ne (Ne.symm hne)]; exact h1
 have hfin : ∀ B C, (S1.set g B).set a C = (S.set g B).set a C := by
  intro B C
  rw [← hS1, List.set_comm _ _ hne, List.set_set]
 have Hfin := Lib.hid hfin
 have Hal := Lib.hid (And.intro hal hgl)
 clear hg had hal hgl hne hS1 hfin
 refine en Tryz.func40 rfl Tryz.ntmps40 fun hO => ?_
 repeat' first | apply x_seq | apply x_skip | apply x_block | apply x_exit | apply x_ret | apply x_ops_nil | apply p_blk | apply p_exit_it | apply p_exit_hit | apply p_ret_it | apply p_ret_blk | apply p_panic_it | apply p_panic_blk | apply p_end | (apply p_exit_miss; (· rfl)) | (apply x_region; simp only [List.toList_toArray]) | (apply x_step0; (· rfl); (· simp only [go_sem, *, List.all_map, Function.comp_def, all_true]; try rfl); (· rfl); simp only [putA]) | (apply ac_ret; simp only [putA]) | apply ac_panic | (apply x_callA []; (· simp only [go_sem, *, List.all_map, Function.comp_def, all_true]; try rfl); (· rfl); (· simp only [go_sem, *, List.all_map, Function.comp_def, all_true]; try rfl); (· rfl); (iterate 2 (· simp only [go_sem, *, List.all_map, Function.comp_def, all_true]; try rfl)); (first | apply hck); simp only [afterCall, putA]) | (apply x_panic; (· simp only [go_sem, *, List.all_map, Function.comp_def, all_true]; try rfl); (· rfl); (· simp only [go_sem, *, List.all_map, Function.comp_def, all_true]; try rfl)) | (apply x_step; (iterate 2 (· simp only [go_sem, *, List.all_map, Function.comp_def, all_true]; try rfl)); (· rfl); simp only [putA]) | (apply x_unwanted; (· simp only [go_sem, *, List.all_map, Function.comp_def, all_true]; try rfl); (· rfl); simp only [putA]) | (apply x_condT; (· simp only [go_sem, *, List.all_map, Function.comp_def, all_true]; try rfl)) | (apply x_condF; (· simp only [go_sem, *, List.all_map, Function.comp_def, all_true]; try rfl)) | (apply x_guardS; (· rfl); (fail_if_success (focus (show _ = some true; (· simp only [go_sem, *, List.all_map, Function.comp_def, all_true]; try rfl)))); (· simp only [go_sem, *, List.all_map, Function.comp_def, all_true]; try rfl); all_goals (intro hb; try simp only [bnn] at hb)) | (apply x_condS; (· simp only [go_sem, *, List.all_map, Function.comp_def, all_true]; try rfl); all_goals (intro hb; try simp only [bnn] at hb)) | fail
 (apply f_retX; iterate 5 (· simp only [go_sem, *, Tryz.results40]; try rfl))
 ·rw [Hfin.out]
  refine OuterOk.set (OuterOk.set hO ?_) ?_
  ·have h4 : ltL S.length (List.map bAV bs ++ List.map bAV s) = true := by rw [← List.map_append]; exact bAV_ltL _ _
   exact h4
  ·have := Hal.out; simp [Blk.ltB, ltL, AV.lt, this.1, this.2]
 ·simp [hl1]
 ·rw [Hfin.out]; rw [List.map_append] at h; exact h
set_option maxHeartbeats 1000000 in
theorem bldString (w0 : World) (S : List Blk) (a g i : Nat) (ad : AV) (bs : List UInt8) (hb : Bld S a g i ad bs) (hpos : 1 ≤ bs.length) (R : Rt)
  (h : R (.ret (.str bs)) (S.set g .dead)) : ACall Tryz.prog w0 41 [.own a 0] S R := by
 obtain ⟨ha, hg, had⟩ := hb
 have hby := bytesOf_map bs
 have hok8 := okBytes_map bs
 have hbl : (bs.map bAV).length = bs.length := by simp
 have hne : a ≠ g := by rintro rfl; rw [ha] at hg; cases hg
 have h3 : ∀ B, (S.set g B)[a]? = some (.cells [ad, .sown g i bs.length] (some 90)) := by intro B; rw [List.getElem?_set_ne (Ne.symm hne)]; exact ha
 clear hne
 clear had
 refine en Tryz.func41 rfl Tryz.ntmps41 fun hO => ?_
 repeat' first | refine st ?_ | (refine br ?_ ?_; all_goals (intro hb; try simp only [bnn] at hb)) | refine sd ?_ | apply pl_nil | (apply c_end; (· decide +kernel)) | refine bd ?_ ?_ | fail
 ·repeat' first | exact pl_nil | refine pl_none ?_ | refine pl_skip2 (by decide +kernel) ?_ | refine pl_one ((h3 _).trans ha.symm) ?_
 (apply f_retX; iterate 5 (· simp only [go_sem, *, Tryz.results41]; try rfl))
 ·exact OuterOk.set hO rfl
 ·simp
 ·exact h
def textS (l : List Nat) : List UInt8 := l.flatMap putS
theorem bldEmpty (w0 : World) (S : List Blk) (a : Nat) (ha : S[a]? = some (.cells [.nilp, .snil] (some 90))) (R : Rt) (h : R (.ret (.str [])) S) : ACall Tryz.prog w0 41 [.own a 0] S R := by
 refine en Tryz.func41 rfl Tryz.ntmps41 fun hO => ?_
 repeat' first | refine st ?_ | (refine br ?_ ?_; all_goals (intro hb; try simp only [bnn] at hb)) | refine sd ?_ | apply pl_nil | (apply c_end; (· decide +kernel)) | refine bd ?_ ?_ | fail
 all_goals (apply f_ret; iterate 7 (· simp only [go_sem, *, Tryz.results41]; try rfl))
 all_goals exact h
theorem wsT (w0 : World) (X : List Blk) (ad : AV) (i : Nat) (bs s : List UInt8) (had : ad = .nilp ∨ ad = .own X.length 0) (hlen : (bs.length + s.length) * 1 ≤ 140737488355328) (R : Rt)
  (h : R (.ret (.tup [.int .i64 s.length, .inil])) (X ++ [Blk.cells [.own X.length 0, .sown (X.length + 1) (i + 1) (bs ++ s).length] (some 90), .arr 5 1 0 (i + 1) ((bs ++ s).map bAV)])) :
  ACall Tryz.prog w0 40 [.own X.length 0, .str s] (X ++ [Blk.cells [ad, .sown (X.length + 1) i bs.length] (some 90), .arr 5 1 0 i (bs.map bAV)]) R := by
 refine writeString w0 _ X.length (X.length + 1) i ad bs s ⟨by simp, by rw [List.getElem?_append_right (by omega)]; simp, had⟩ hlen R ?_
 have e : ((X ++ [Blk.cells [ad, .sown (X.length + 1) i bs.length] (some 90), .arr 5 1 0 i (bs.map bAV)]).set (X.length + 1) (.arr 5 1 0 (i + 1) ((bs ++ s).map bAV))).set X.length (.cells [.own X.length 0, .sown (X.length + 1) (i + 1) (bs.length + s.length)] (some 90)) =
   X ++ [Blk.cells [.own X.length 0, .sown (X.length + 1) (i + 1) (bs ++ s).length] (some 90), .arr 5 1 0 (i + 1) ((bs ++ s).map bAV)] := by
  rw [List.set_append_right _ _ (by omega), List.set_append_right _ _ (by omega)]
  simp
 rw [e]
 exact h
theorem bsT (w0 : World) (X : List Blk) (ad : AV) (i : Nat) (bs : List UInt8) (had : ad = .nilp ∨ ad = .own X.length 0) (hpos : 1 ≤ bs.length) (R : Rt)
  (h : R (.ret (.str bs)) (X ++ [Blk.cells [ad, .sown (X.length + 1) i bs.length] (some 90), .dead])) :
  ACall Tryz.prog w0 41 [.own X.length 0] (X ++ [Blk.cells [ad, .sown (X.length + 1) i bs.length] (some 90), .arr 5 1 0 i (bs.map bAV)]) R := by
 refine bldString w0 _ X.length (X.length + 1) i ad bs ⟨by simp, by rw [List.getElem?_append_right (by omega)]; simp, had⟩ hpos R ?_
 rw [List.set_append_right _ _ (by omega)]
 simpa using h
theorem putS_len (cp : Nat) : 1 ≤ (putS cp).length ∧ (putS cp).length ≤ 4 := by
 unfold putS putU putN
 repeat' split
 all_goals simp
theorem textS_len (l : List Nat) : l.length ≤ (textS l).length ∧ (textS l).length ≤ 4 * l.length := by
 induction l with
 | nil => simp [textS]
 | cons c l ih =>
  have := putS_len c
  unfold textS at ih ⊢
  rw [List.flatMap_cons, List.length_append, List.length_cons]; omega
theorem textS_succ {l : List Nat} {k c : Nat} (h : l[k]? = some c) : textS (l.take (k + 1)) = textS (l.take k) ++ putS c := by
 unfold textS
 rw [List.take_add_one, h]
 simp
set_option maxHeartbeats 4000000 in
theorem uText (w0 : World) (S : List Blk) (l : List Nat) (hb : ∀ c ∈ l, c < 4294967296) (hl : l.length ≤ 100000000) (R : Rt) (h : R (.ret (.str (textS l))) S) : ACall Tryz.prog w0 187 [.sval false (l.map Co)] S R := by
 by_cases hn : l = []
 ·subst hn
  have h : R (.ret (.str [])) S := h
  have e0 : decide ((0 : Int) < ((0 : Nat) : Int)) = false := rfl
  have hbe := fun S' ha => bldEmpty w0 S' S.length ha
  clear hb hl
  refine en Tryz.func187 rfl Tryz.ntmps187 fun hO => ?_
  repeat' first | refine st ?_ | (refine ca ?_; first | (apply hbe; (· simp only [go_sem, *]; try rfl))) | (refine br ?_ ?_; all_goals (intro hb; try simp only [bnn] at hb)) | apply x_loop | apply x_lp | fail
  (apply f_ret; iterate 7 (· simp only [go_sem, *, Tryz.results187]; try rfl))
  exact h
 ·have hpos : 0 < l.length := by
   cases l with
   | nil => exact absurd rfl hn
   | cons a r => simp
  refine en Tryz.func187 rfl Tryz.ntmps187 fun hO => ?_
  repeat' first | refine st ?_ | (refine br ?_ ?_; all_goals (intro hb; try simp only [bnn] at hb)) | fail
  refine x_thawC (a := S.length) (j := 1) 5 1 (by (simp only [go_sem, *]; try rfl)) (by (simp only [go_sem, *]; try rfl)) (by decide) ?_
  simp only [go_sem, *]
  refine x_ind (fun (p : Nat × AV) env S' => p.1 ≤ l.length ∧ (p.2 = .nilp ∨ p.2 = .own S.length 0) ∧ env 1000000 = .dfr [] ∧ env 3 = .own S.length 0 ∧ env 6 = .sval false (l.map Co) ∧ env 7 = .int .i64 l.length ∧ env 8 = .int .i64 (p.1 : Int) ∧
   S' = S ++ [Blk.cells [p.2, .sown (S.length + 1) p.1 (textS (l.take p.1)).length] (some 90), .arr 5 1 0 p.1 ((textS (l.take p.1)).map bAV)]) (fun p => l.length - p.1) (0, .nilp) ?_ ?_
  ·exact ⟨Nat.zero_le _, .inl rfl, by (simp only [go_sem, *]; try rfl), by (simp only [go_sem, *]; try rfl), by (simp only [go_sem, *]; try rfl), by (simp only [go_sem, *]; try rfl), by (simp only [go_sem, *]; try rfl), rfl⟩
  ·rintro ⟨k, ad⟩ env S' ⟨hk, had, e0, e3, e6, e7, e8, rfl⟩ IH
   have HI := Lib.hid IH
   have H := Lib.hid h
   have Hb := Lib.hid hb
   have Had := Lib.hid had
   have Hpos := Lib.hid hpos
   clear IH h hb had hn hpos
   have ht := textS_len (l.take k)
   have htk : (l.take k).length ≤ k := List.length_take_le _ _
   simp only at hk e8
   by_cases hlt : k < l.length
   ·obtain ⟨c, hx⟩ : ∃ c, l[k]? = some c := ⟨_, List.getElem?_eq_getElem hlt⟩
    have h1 : decide ((k : Int) < (l.length : Int)) = true := by simpa using hlt
    have hw : IntKind.i64.wrap ((k : Int) + 1) = (k : Int) + 1 := IntWalk.i64_in _ (by omega)
    have hpl := putS_len c
    have hput := fun S' => uPut w0 S' c (Hb.out c (List.mem_of_getElem? hx))
    have hws := wsT w0 S ad k (textS (l.take k)) (putS c) Had.out (by omega)
    rw [← textS_succ hx] at hws
    have Hlt := Lib.hid hlt
    clear hlt hl hk ht htk hpl
    repeat' first | apply x_seq | apply x_skip | apply x_block | apply x_exit | apply x_ret | apply x_ops_nil | apply p_blk | apply p_exit_it | apply p_exit_hit | apply p_ret_it | apply p_ret_blk | apply p_panic_it | apply p_panic_blk | apply p_end | (apply p_exit_miss; (· rfl)) | (apply x_region; simp only [List.toList_toArray]) | (apply x_step0; (· rfl); (· simp only [go_sem, *, Co]; try rfl); (· rfl); simp only [putA]) | (apply ac_ret; simp only [putA]) | apply ac_panic | (apply x_callA []; (· simp only [go_sem, *, Co]; try rfl); (· rfl); (· simp only [go_sem, *, Co]; try rfl); (· rfl); (iterate 2 (· simp only [go_sem, *, Co]; try rfl)); (first | apply hput | apply hws); simp only [afterCall, putA]) | (apply x_panic; (· simp only [go_sem, *, Co]; try rfl); (· rfl); (· simp only [go_sem, *, Co]; try rfl)) | (apply x_step; (iterate 2 (· simp only [go_sem, *, Co]; try rfl)); (· rfl); simp only [putA]) | (apply x_unwanted; (· simp only [go_sem, *, Co]; try rfl); (· rfl); simp only [putA]) | (apply x_condT; (· simp only [go_sem, *, Co]; try rfl)) | (apply x_condF; (· simp only [go_sem, *, Co]; try rfl)) | (apply x_guardS; (· rfl); (fail_if_success (focus (show _ = some true; (· simp only [go_sem, *, Co]; try rfl)))); (· simp only [go_sem, *, Co]; try rfl); all_goals (intro hb; try simp only [bnn] at hb)) | (apply x_condS; (· simp only [go_sem, *, Co]; try rfl); all_goals (intro hb; try simp only [bnn] at hb)) | fail
    refine HI.out (k + 1, .own S.length 0) _ _ (by have := Hlt.out; simp only; omega) ⟨Hlt.out, .inr rfl, ?_, ?_, ?_, ?_, ?_, rfl⟩
    ·(simp only [go_sem, *]; try rfl)
    ·(simp only [go_sem, *]; try rfl)
    ·(simp only [go_sem, *]; try rfl)
    ·(simp only [go_sem, *]; try rfl)
    ·(simp only [go_sem, *]; try rfl)
   ·have hkl : k = l.length := by omega
    have h1 : decide ((k : Int) < (l.length : Int)) = false := by simpa using hlt
    have htl : textS (l.take k) = textS l := by rw [hkl, List.take_length]
    have hp1 : 1 ≤ (textS l).length := by have := textS_len l; have := Hpos.out; omega
    rw [htl]
    have hbs := bsT w0 S ad k (textS l) Had.out hp1
    clear hlt hl hk ht htk htl hkl hp1
    repeat' first | refine st ?_ | (refine ca ?_; first | apply hbs) | (refine br ?_ ?_; all_goals (intro hb; try simp only [bnn] at hb)) | fail
    (apply f_ret; iterate 7 (· simp only [go_sem, *, Tryz.results187]; try rfl))
    exact H.out
def stU (s : List Nat) : List Nat × List Nat := s.foldl (fun q b => ((stepU q.1 b).1, q.2 ++ (stepU q.1 b).2)) ([], [])
theorem fold_codes : ∀ (s : List Nat) (q : List Nat × List Nat), (s.foldl (fun q b => ((stepU q.1 b).1, q.2 ++ (stepU q.1 b).2)) q).2 ++ flushU (s.foldl (fun q b => ((stepU q.1 b).1, q.2 ++ (stepU q.1 b).2)) q).1 = q.2 ++ codesF q.1 s
 | [], q => rfl
 | b :: s, q => by
  rw [List.foldl_cons, fold_codes s]
  simp only [codesF, List.append_assoc]
theorem codes_st (s : List Nat) : codesU s = (stU s).2 ++ flushU (stU s).1 := by
 have := fold_codes s ([], [])
 rw [List.nil_append] at this
 exact this.symm
theorem st_succ {s : List Nat} {i b : Nat} (h : s[i]? = some b) : stU (s.take (i + 1)) = ((stepU (stU (s.take i)).1 b).1, (stU (s.take i)).2 ++ (stepU (stU (s.take i)).1 b).2) := by
 unfold stU
 rw [List.take_add_one, h]
 simp only [Option.toList_some, List.foldl_append, List.foldl_cons, List.foldl_nil]
theorem step_bytes {p : List Nat} {b : Nat} (hp : ∀ x ∈ p, x < 256) (hb : b < 256) : ∀ x ∈ (stepU p b).1, x < 256 := by
 have ha : ∀ x ∈ p ++ [b], x < 256 := by
  intro x hx
  rcases List.mem_append.1 hx with hx | hx
  ·exact hp x hx
  ·rw [List.mem_singleton.1 hx]; exact hb
 unfold stepU
 split
 ·simp
 ·split
  ·exact ha
  ·split
   ·simp
   ·unfold step1
    split
    ·simp
    ·split
     ·intro x hx; rw [List.mem_singleton.1 hx]; exact hb
     ·simp
theorem st_ok (s : List Nat) (hs : ∀ b ∈ s, b < 256) : ∀ i, rightU (stU (s.take i)).1 = true ∧ ∀ x ∈ (stU (s.take i)).1, x < 256 := by
 intro i
 induction i with
 | zero => exact ⟨rfl, by simp [stU]⟩
 | succ i ih =>
  cases hx : s[i]? with
  | none =>
   rw [List.getElem?_eq_none_iff] at hx
   rw [List.take_of_length_le (by omega)] at ih ⊢
   exact ih
  | some b =>
   rw [st_succ hx]
   exact ⟨stepU_right _ _, step_bytes ih.2 (hs b (List.mem_of_getElem? hx))⟩
theorem code_lt {p : List Nat} (h : kindU p = 2) : codeU p < 2097152 := by
 match p with
 | [] => decide
 | [a] =>
  obtain ⟨h1, _⟩ := kind2 h
  rcases first_cases a with ⟨h2, hF, hL⟩ | ⟨h2, hF, hL⟩ | ⟨h2, h3, hF, hL⟩ | ⟨h2, h3, hF, hL⟩ | ⟨h2, h3, hF, hL⟩ | ⟨h2, h3, hF, hL⟩ | ⟨h2, h3, hF, hL⟩
  all_goals (rw [hL] at h1; simp at h1)
  simp [codeU]; omega
 | [a, b] => simp [codeU]; omega
 | [a, b, c] => simp [codeU]; omega
 | [a, b, c, d] => simp [codeU]; omega
 | a :: b :: c :: d :: e :: r =>
  obtain ⟨h1, _⟩ := kind2 h
  rcases first_cases a with ⟨h2, hF, hL⟩ | ⟨h2, hF, hL⟩ | ⟨h2, h3, hF, hL⟩ | ⟨h2, h3, hF, hL⟩ | ⟨h2, h3, hF, hL⟩ | ⟨h2, h3, hF, hL⟩ | ⟨h2, h3, hF, hL⟩
  all_goals (rw [hL] at h1; simp at h1)
theorem step1_codes (b : Nat) : (∀ c ∈ (step1 b).2, c < 2097152) ∧ (step1 b).2.length ≤ 1 := by
 unfold step1
 split
 ·next h => exact ⟨by intro c hc; rw [List.mem_singleton.1 hc]; exact code_lt h, by simp⟩
 ·split <;> simp
theorem step_codes (p : List Nat) (b : Nat) : (∀ c ∈ (stepU p b).2, c < 2097152) ∧ (stepU p b).2.length ≤ 2 := by
 unfold stepU
 split
 ·next h => exact ⟨by intro c hc; rw [List.mem_singleton.1 hc]; exact code_lt h, by simp⟩
 ·split
  ·simp
  ·split
   ·simp
   ·have := step1_codes b
    refine ⟨?_, by simp; omega⟩
    intro c hc
    rcases List.mem_cons.1 hc with rfl | hc
    ·decide
    ·exact this.1 c hc
theorem codesF_lt : ∀ (s p : List Nat), (∀ c ∈ codesF p s, c < 2097152) ∧ (codesF p s).length ≤ 2 * s.length + 1
 | [], p => by
  unfold codesF flushU
  split <;> simp
 | b :: s, p => by
  have h1 := step_codes p b
  have h2 := codesF_lt s (stepU p b).1
  unfold codesF
  refine ⟨?_, by rw [List.length_append, List.length_cons]; omega⟩
  intro c hc
  rcases List.mem_append.1 hc with hc | hc
  ·exact h1.1 c hc
  ·exact h2.1 c hc
def codesB (s : List UInt8) : List Nat := codesU (s.map UInt8.toNat)
theorem codesB_lt (s : List UInt8) : (∀ c ∈ codesB s, c < 2097152) ∧ (codesB s).length ≤ 2 * s.length + 1 := by
 have := codesF_lt (s.map UInt8.toNat) []
 rw [List.length_map] at this
 exact this
theorem st_pre (s : List Nat) : ∀ m i, i + m = s.length → ∃ z, (stU s).2 = (stU (s.take i)).2 ++ z
 | 0, i, h => ⟨[], by rw [List.take_of_length_le (by omega), List.append_nil]⟩
 | m + 1, i, h => by
  obtain ⟨z, hz⟩ := st_pre s m (i + 1) (by omega)
  have hx : s[i]? = some s[i] := List.getElem?_eq_getElem (by omega)
  rw [st_succ hx] at hz
  exact ⟨(stepU (stU (s.take i)).1 s[i]).2 ++ z, by rw [hz, List.append_assoc]⟩
theorem code_at {s : List UInt8} {i j c : Nat} {b : UInt8} (hx : s[i]? = some b) (hj : (stepU (stU ((s.map UInt8.toNat).take i)).1 b.toNat).2[j]? = some c) : (codesB s)[(stU ((s.map UInt8.toNat).take i)).2.length + j]? = some c := by
 have hi := (List.getElem?_eq_some_iff.1 hx).1
 obtain ⟨z, hz⟩ := st_pre (s.map UInt8.toNat) (s.length - (i + 1)) (i + 1) (by simp; omega)
 have hx2 : (s.map UInt8.toNat)[i]? = some b.toNat := by rw [List.getElem?_map, hx]; rfl
 rw [st_succ hx2] at hz
 have hjl := (List.getElem?_eq_some_iff.1 hj).1
 unfold codesB
 rw [codes_st, hz]
 simp only [List.append_assoc]
 rw [List.getElem?_append_right (by omega), Nat.add_sub_cancel_left, List.getElem?_append_left hjl]
 exact hj
theorem code_end {s : List UInt8} {j c : Nat} (hj : (flushU (stU (s.map UInt8.toNat)).1)[j]? = some c) : (codesB s)[(stU (s.map UInt8.toNat)).2.length + j]? = some c := by
 unfold codesB
 rw [codes_st, List.getElem?_append_right (by omega), Nat.add_sub_cancel_left]
 exact hj
def eachV (s : List UInt8) : AV := .fn (.func 268) [] [.pro [.str s]]
theorem uEach (w0 : World) (S : List Blk) (s : List UInt8) (R : Rt) (h : R (.ret (eachV s)) S) : ACall Tryz.prog w0 228 [.str s] S R := by
 refine en Tryz.func228 rfl Tryz.ntmps228 fun hO => ?_
 repeat' first | refine st ?_ | (refine br ?_ ?_; all_goals (intro hb; try simp only [bnn] at hb)) | fail
 (apply f_ret; iterate 7 (· simp only [go_sem, *, Tryz.results228]; try rfl))
 exact h
set_option maxHeartbeats 4000000 in
theorem uEach1 (w0 : World) (s : List UInt8) (hs : s.length ≤ 100000000) (a n : Nat) (ha : decide (a < n) = true) (I : Nat → List Blk → Prop) (hI : ∀ k S, I k S → S.length = n ∧ OuterOk S)
  (hround : ∀ k S c, I k S → (codesB s)[k]? = some c → ∀ (E : List Blk) (R' : AOut → List Blk → Prop), (∀ S2 E2, I (k + 1) S2 → R' (.ret (.bool true)) (S2 ++ (E ++ E2))) → YA Tryz.prog w0 a [.int .i64 c] (S ++ E) R')
  (S : List Blk) (h0 : I 0 S) (R : Rt) (h : ∀ S', I (codesB s).length S' → R (.ret (.tup [])) S') :
  ACall Tryz.prog w0 268 [.yld a, .pro [.str s]] S R := by
 have hn := (hI _ _ h0).1
 refine en Tryz.func268 rfl Tryz.ntmps268 fun hO => ?_
 repeat' first | refine st ?_ | (refine br ?_ ?_; all_goals (intro hb; try simp only [bnn] at hb)) | fail
 have hall : ∀ b ∈ s.map UInt8.toNat, b < 256 := by
  intro b hb
  obtain ⟨x, _, rfl⟩ := List.mem_map.1 hb
  exact x.toNat_lt
 have hst := st_ok (s.map UInt8.toNat) hall
 refine x_ind (fun (p : Nat × AV) env S' => p.1 ≤ s.length ∧ (p.2 = .snil ∧ (stU ((s.map UInt8.toNat).take p.1)).1 = [] ∨ p.2 = .sval false ((stU ((s.map UInt8.toNat).take p.1)).1.map By)) ∧ env 1000000 = .dfr [] ∧ env 0 = .yld a ∧ env 1 = .pro [.str s] ∧ env 3 = p.2 ∧ env 12 = .int .i64 s.length ∧ env 13 = .int .i64 (p.1 : Int) ∧ I (stU ((s.map UInt8.toNat).take p.1)).2.length S') (fun p => s.length - p.1) (0, .snil) ?_ ?_
 ·exact ⟨Nat.zero_le _, .inl ⟨rfl, rfl⟩, by (simp only [go_sem, *]; try rfl), by (simp only [go_sem, *]; try rfl), by (simp only [go_sem, *]; try rfl), by (simp only [go_sem, *]; try rfl), by (simp only [go_sem, *]; try rfl), by (simp only [go_sem, *]; try rfl), h0⟩
 ·rintro ⟨i, pv⟩ env S' ⟨hi, hpv, e0, ey, e1, e3, e12, e13, hIi⟩ IH
  have HI := Lib.hid IH
  have HIi := Lib.hid hIi
  have Hn := Lib.hid hn
  have Hr := Lib.hid hround
  have HJ := Lib.hid hI
  have H := Lib.hid h
  have Hst := Lib.hid hst
  clear IH hIi hn hround hI h hst hall h0
  simp only at hi e13 e3 hpv
  by_cases hlt : i < s.length
  ·obtain ⟨b, hx⟩ : ∃ b, s[i]? = some b := ⟨_, List.getElem?_eq_getElem hlt⟩
   have h1 : decide ((i : Int) < (s.length : Int)) = true := by simpa using hlt
   have hw : IntKind.i64.wrap ((i : Int) + 1) = (i : Int) + 1 := IntWalk.i64_in _ (by omega)
   have hx2 : (s.map UInt8.toNat)[i]? = some b.toNat := by rw [List.getElem?_map, hx]; rfl
   have hsu := st_succ hx2
   have hca := fun j c => code_at (j := j) (c := c) hx
   have hstep := fun S' => uStep w0 S' (stU ((s.map UInt8.toNat).take i)).1 b.toNat b.toNat_lt (Hst.out i).1 (Hst.out i).2
   have hq2 := (step_codes (stU ((s.map UInt8.toNat).take i)).1 b.toNat).2
   obtain ⟨q, hq⟩ : ∃ q, stepU (stU ((s.map UInt8.toNat).take i)).1 b.toNat = q := ⟨_, rfl⟩
   obtain ⟨D, hD⟩ : ∃ D, (stU ((s.map UInt8.toNat).take i)).2 = D := ⟨_, rfl⟩
   obtain ⟨X, hX⟩ : ∃ X, (stU ((s.map UInt8.toNat).take i)).1 = X := ⟨_, rfl⟩
   rw [hq, hX] at hstep
   rw [hq] at hca hsu hq2
   rw [hD] at hca hsu
   rw [hX] at hpv
   obtain ⟨q1, q2⟩ := q
   unfold stepV at hstep
   simp only at hstep hca hsu hq2
   have HIi2 := Lib.hid (show I D.length S' from hD ▸ HIi.out)
   have Hca := Lib.hid hca
   have Hsu := Lib.hid hsu
   have Hlt := Lib.hid hlt
   clear HIi Hst hca hsu hX hD hq hx2 hlt hi
   have Hstep := Lib.hid hstep
   clear hstep
   rcases hpv with ⟨rfl, hX0⟩ | rfl
   all_goals
    try subst hX0
    repeat' first | refine st ?_ | (refine ca ?_; first | apply Hstep.out) | (refine br ?_ ?_; all_goals (intro hb; try simp only [bnn] at hb)) | fail
    refine x_ind (fun (j : Nat) env' S2 => j ≤ q2.length ∧ env' 1000000 = .dfr [] ∧ env' 0 = .yld a ∧ env' 1 = .pro [.str s] ∧ env' 3 = .sval false (q1.map By) ∧ env' 12 = .int .i64 s.length ∧ env' 13 = .int .i64 (i : Int) ∧ env' 25 = .sval false (q2.map Co) ∧ env' 26 = .int .i64 q2.length ∧ env' 27 = .int .i64 (j : Int) ∧ I (D.length + j) S2) (fun j => q2.length - j) 0 ?_ ?_
    ·exact ⟨Nat.zero_le _, by (simp only [go_sem, *]; try rfl), by (simp only [go_sem, *]; try rfl), by (simp only [go_sem, *]; try rfl), by (simp only [go_sem, *]; try rfl), by (simp only [go_sem, *]; try rfl), by (simp only [go_sem, *]; try rfl), by (simp only [go_sem, *]; try rfl), by (simp only [go_sem, *]; try rfl), by (simp only [go_sem, *]; try rfl), HIi2.out⟩
    ·clear e0 ey e1 e3 e12 e13
     rintro j env2 S2 ⟨hj, f0, fy, f1, f3, f12, f13, f25, f26, f27, hIj⟩ JH
     have HH := Lib.hid JH
     have HIj := Lib.hid hIj
     clear JH hIj
     by_cases hjl : j < q2.length
     ·obtain ⟨c, hc⟩ : ∃ c, q2[j]? = some c := ⟨_, List.getElem?_eq_getElem hjl⟩
      have j1 : decide ((j : Int) < (q2.length : Int)) = true := by simpa using hjl
      have hwj : IntKind.i64.wrap ((j : Int) + 1) = (j : Int) + 1 := IntWalk.i64_in _ (by omega)
      have Hjl := Lib.hid hjl
      clear hjl hj hq2
      repeat' first | apply x_seq | apply x_skip | apply x_block | apply x_exit | apply x_ret | apply x_ops_nil | apply p_blk | apply p_exit_it | apply p_exit_hit | apply p_ret_it | apply p_ret_blk | apply p_panic_it | apply p_panic_blk | apply p_end | (apply p_exit_miss; (· rfl)) | (apply x_region; simp only [List.toList_toArray]) | (apply x_step0; (· rfl); (· simp only [go_sem, *, Co]; try rfl); (· rfl); simp only [putA]) | (apply ac_ret; simp only [putA]) | apply ac_panic | (apply x_panic; (· simp only [go_sem, *, Co]; try rfl); (· rfl); (· simp only [go_sem, *, Co]; try rfl)) | (apply x_step; (iterate 2 (· simp only [go_sem, *, Co]; try rfl)); (· rfl); simp only [putA]) | (apply x_unwanted; (· simp only [go_sem, *, Co]; try rfl); (· rfl); simp only [putA]) | (apply x_condT; (· simp only [go_sem, *, Co]; try rfl)) | (apply x_condF; (· simp only [go_sem, *, Co]; try rfl)) | (apply x_guardS; (· rfl); (fail_if_success (focus (show _ = some true; (· simp only [go_sem, *, Co]; try rfl)))); (· simp only [go_sem, *, Co]; try rfl); all_goals (intro hb; try simp only [bnn] at hb)) | (apply x_condS; (· simp only [go_sem, *, Co]; try rfl); all_goals (intro hb; try simp only [bnn] at hb)) | fail
      apply x_yield
      ·(simp only [go_sem, *]; try rfl)
      ·rfl
      ·(simp only [go_sem, *]; try rfl)
      ·rfl
      ·(simp only [go_sem, *]; try rfl)
      have hy := Hr.out (D.length + j) S2 c HIj.out (Hca.out j c hc) []
      simp only [List.append_nil, List.nil_append] at hy
      refine hy _ ?_
      intro S3 E3 hI3
      have hO3 := HJ.out _ _ hI3
      simp only [afterCall, putA]
      repeat' first | refine st ?_ | (refine br ?_ ?_; all_goals (intro hb; try simp only [bnn] at hb)) | fail
      refine x_keepO hO3.2 0 [0, 1, 3, 12, 13, 25, 26, 27] (Hn.out.trans hO3.1.symm) (by (simp only [go_sem, *]; try rfl)) (by (simp only [go_sem, *]; try rfl)) (by (simp only [go_sem, *]; try rfl)) ?_
      refine HH.out (j + 1) _ _ (by have := Hjl.out; omega) ⟨Hjl.out, ?_, ?_, ?_, ?_, ?_, ?_, ?_, ?_, ?_, ?_⟩
      ·(simp only [go_sem, *]; try rfl)
      ·(simp only [go_sem, *]; try rfl)
      ·(simp only [go_sem, *]; try rfl)
      ·(simp only [go_sem, *]; try rfl)
      ·(simp only [go_sem, *]; try rfl)
      ·(simp only [go_sem, *]; try rfl)
      ·(simp only [go_sem, *]; try rfl)
      ·(simp only [go_sem, *]; try rfl)
      ·(simp only [go_sem, *]; try rfl)
      ·rw [show D.length + (j + 1) = D.length + j + 1 from rfl]
       simpa only [List.take_zero, List.append_nil] using hI3
     ·have j1 : decide ((j : Int) < (q2.length : Int)) = false := by simpa using hjl
      have hje : j = q2.length := by omega
      have Hje := Lib.hid hje
      clear hjl hj hje hq2
      repeat' first | refine st ?_ | (refine br ?_ ?_; all_goals (intro hb; try simp only [bnn] at hb)) | fail
      refine HI.out (i + 1, .sval false (q1.map By)) _ _ (by have := Hlt.out; simp only; omega) ⟨Hlt.out, .inr (by simp only; rw [Hsu.out]), ?_, ?_, ?_, ?_, ?_, ?_, ?_⟩
      ·(simp only [go_sem, *]; try rfl)
      ·(simp only [go_sem, *]; try rfl)
      ·(simp only [go_sem, *]; try rfl)
      ·(simp only [go_sem, *]; try rfl)
      ·(simp only [go_sem, *]; try rfl)
      ·(simp only [go_sem, *]; try rfl)
      ·simp only
       rw [Hsu.out, List.length_append, ← Hje.out]
       exact HIj.out
  ·have h1 : decide ((i : Int) < (s.length : Int)) = false := by simpa using hlt
   have hie : i = s.length := by omega
   have htk : (s.map UInt8.toNat).take i = s.map UInt8.toNat := List.take_of_length_le (by simp; omega)
   have hst1 := (Hst.out i).1
   have hIi3 := HIi.out
   rw [htk] at hpv hst1 hIi3
   have hfl := fun S' => uFlush w0 S' (stU (s.map UInt8.toNat)).1 hst1
   have hce := fun j c => code_end (s := s) (j := j) (c := c)
   have hcl : (codesB s).length = (stU (s.map UInt8.toNat)).2.length + (flushU (stU (s.map UInt8.toNat)).1).length := by
    unfold codesB
    rw [codes_st, List.length_append]
   obtain ⟨D, hD⟩ : ∃ D, (stU (s.map UInt8.toNat)).2 = D := ⟨_, rfl⟩
   obtain ⟨X, hX⟩ : ∃ X, (stU (s.map UInt8.toNat)).1 = X := ⟨_, rfl⟩
   obtain ⟨q2, hq2⟩ : ∃ q2, flushU (stU (s.map UInt8.toNat)).1 = q2 := ⟨_, rfl⟩
   have hq2l : q2.length ≤ 1 := by rw [← hq2]; unfold flushU; split <;> simp
   rw [hq2, hX] at hfl
   rw [hX] at hpv
   rw [hD, hq2] at hce hcl
   rw [hD] at hIi3
   have HIi2 := Lib.hid hIi3
   have Hce := Lib.hid hce
   have Hcl := Lib.hid hcl
   have Hfl := Lib.hid hfl
   clear hIi3 HIi hce hcl hfl hst1 hD hX hq2 htk hie hlt hi Hst HI
   rcases hpv with ⟨rfl, hX0⟩ | rfl
   all_goals
    try subst hX0
    repeat' first | refine st ?_ | (refine ca ?_; first | apply Hfl.out) | (refine br ?_ ?_; all_goals (intro hb; try simp only [bnn] at hb)) | fail
    refine x_ind (fun (j : Nat) env' S2 => j ≤ q2.length ∧ env' 1000000 = .dfr [] ∧ env' 0 = .yld a ∧ env' 38 = .sval false (q2.map Co) ∧ env' 39 = .int .i64 q2.length ∧ env' 40 = .int .i64 (j : Int) ∧ I (D.length + j) S2) (fun j => q2.length - j) 0 ?_ ?_
    ·exact ⟨Nat.zero_le _, by (simp only [go_sem, *]; try rfl), by (simp only [go_sem, *]; try rfl), by (simp only [go_sem, *]; try rfl), by (simp only [go_sem, *]; try rfl), by (simp only [go_sem, *]; try rfl), HIi2.out⟩
    ·clear e0 ey e1 e3 e12 e13
     rintro j env2 S2 ⟨hj, f0, fy, f25, f26, f27, hIj⟩ JH
     have HH := Lib.hid JH
     have HIj := Lib.hid hIj
     clear JH hIj
     by_cases hjl : j < q2.length
     ·obtain ⟨c, hc⟩ : ∃ c, q2[j]? = some c := ⟨_, List.getElem?_eq_getElem hjl⟩
      have j1 : decide ((j : Int) < (q2.length : Int)) = true := by simpa using hjl
      have hwj : IntKind.i64.wrap ((j : Int) + 1) = (j : Int) + 1 := IntWalk.i64_in _ (by omega)
      have Hjl := Lib.hid hjl
      clear hjl hj hq2l
      repeat' first | apply x_seq | apply x_skip | apply x_block | apply x_exit | apply x_ret | apply x_ops_nil | apply p_blk | apply p_exit_it | apply p_exit_hit | apply p_ret_it | apply p_ret_blk | apply p_panic_it | apply p_panic_blk | apply p_end | (apply p_exit_miss; (· rfl)) | (apply x_region; simp only [List.toList_toArray]) | (apply x_step0; (· rfl); (· simp only [go_sem, *, Co]; try rfl); (· rfl); simp only [putA]) | (apply ac_ret; simp only [putA]) | apply ac_panic | (apply x_panic; (· simp only [go_sem, *, Co]; try rfl); (· rfl); (· simp only [go_sem, *, Co]; try rfl)) | (apply x_step; (iterate 2 (· simp only [go_sem, *, Co]; try rfl)); (· rfl); simp only [putA]) | (apply x_unwanted; (· simp only [go_sem, *, Co]; try rfl); (· rfl); simp only [putA]) | (apply x_condT; (· simp only [go_sem, *, Co]; try rfl)) | (apply x_condF; (· simp only [go_sem, *, Co]; try rfl)) | (apply x_guardS; (· rfl); (fail_if_success (focus (show _ = some true; (· simp only [go_sem, *, Co]; try rfl)))); (· simp only [go_sem, *, Co]; try rfl); all_goals (intro hb; try simp only [bnn] at hb)) | (apply x_condS; (· simp only [go_sem, *, Co]; try rfl); all_goals (intro hb; try simp only [bnn] at hb)) | fail
      apply x_yield
      ·(simp only [go_sem, *]; try rfl)
      ·rfl
      ·(simp only [go_sem, *]; try rfl)
      ·rfl
      ·(simp only [go_sem, *]; try rfl)
      have hy := Hr.out (D.length + j) S2 c HIj.out (Hce.out j c hc) []
      simp only [List.append_nil, List.nil_append] at hy
      refine hy _ ?_
      intro S3 E3 hI3
      have hO3 := HJ.out _ _ hI3
      simp only [afterCall, putA]
      repeat' first | refine st ?_ | (refine br ?_ ?_; all_goals (intro hb; try simp only [bnn] at hb)) | fail
      refine x_keepO hO3.2 0 [0, 38, 39, 40] (Hn.out.trans hO3.1.symm) (by (simp only [go_sem, *]; try rfl)) (by (simp only [go_sem, *]; try rfl)) (by (simp only [go_sem, *]; try rfl)) ?_
      refine HH.out (j + 1) _ _ (by have := Hjl.out; omega) ⟨Hjl.out, ?_, ?_, ?_, ?_, ?_, ?_⟩
      ·(simp only [go_sem, *]; try rfl)
      ·(simp only [go_sem, *]; try rfl)
      ·(simp only [go_sem, *]; try rfl)
      ·(simp only [go_sem, *]; try rfl)
      ·(simp only [go_sem, *]; try rfl)
      ·rw [show D.length + (j + 1) = D.length + j + 1 from rfl]
       simpa only [List.take_zero, List.append_nil] using hI3
     ·have j1 : decide ((j : Int) < (q2.length : Int)) = false := by simpa using hjl
      have hje : j = q2.length := by omega
      have Hje := Lib.hid hje
      clear hjl hj hje hq2l
      repeat' first | refine st ?_ | (refine br ?_ ?_; all_goals (intro hb; try simp only [bnn] at hb)) | fail
      have hO2 := HJ.out _ _ HIj.out
      apply f_endO (S2 := S2) (L := [])
      ·(simp only [go_sem, *]; try rfl)
      ·(simp only [go_sem, *]; try rfl)
      ·exact hO2.1.trans Hn.out.symm
      ·exact hO2.2
      ·(simp only [go_sem, *, Tryz.results268]; try rfl)
      ·(simp only [go_sem, *]; try rfl)
      ·(simp only [go_sem, *]; try rfl)
      ·refine H.out _ ?_
       rw [Hcl.out, ← Hje.out]
       exact HIj.out
set_option maxHeartbeats 4000000 in
theorem uCodes (w0 : World) (S : List Blk) (s : List UInt8) (hs : s.length ≤ 100000000) (R : Rt) (h : R (.ret (.sval false ((codesB s).map Co))) S) : ACall Tryz.prog w0 186 [.str s] S R := by
 have hlen := (codesB_lt s).2
 refine en Tryz.func186 rfl Tryz.ntmps186 fun hO => ?_
 repeat' first | refine st ?_ | (refine ca ?_; first | apply uEach) | (refine br ?_ ?_; all_goals (intro hb; try simp only [bnn] at hb)) | fail
 refine x_thawC (a := S.length) (j := 0) 3 1 (by (simp only [go_sem, *]; try rfl)) (by (simp only [go_sem, *]; try rfl)) (by decide) ?_
 simp only [go_sem, *]
 apply x_rangeL [2]
 ·(simp only [go_sem, *, eachV]; try rfl)
 ·(simp only [go_sem, *]; try rfl)
 ·rfl
 ·(simp only [go_sem, *]; try rfl)
 ·(simp only [go_sem, *]; try rfl)
 intro LB hLB
 have hLB2 : ∀ m, LB.ltB (S.length + (1 + m)) = true := by intro m; rw [hLB]; (simp only [go_sem, *]; try rfl); simp; omega
 have HLB := Lib.hid hLB
 clear hLB
 refine uEach1 w0 s hs (S.length + 3) (S.length + 4) (by simp) (fun k S' => S' = S ++ [Blk.cells [AV.sown (S.length + 1) k k], Blk.arr 3 1 0 k (((codesB s).take k).map Co), Blk.obj (Obj.deferred (some [])), LB]) ?_ ?_ _ ?_ _ ?_
 ·rintro k _ rfl
  have h7 := hLB2 3
  clear h
  refine ⟨by simp, OuterOk.app hO ?_⟩
  (simp only [go_sem, *]; try rfl)
 ·rintro k _ c rfl hx E R' hR1
  have hkl : k < (codesB s).length := (List.getElem?_eq_some_iff.1 hx).1
  have hlk : ((codesB s).take k).length = k := by simp; omega
  have hb : (k + 1) * 8 ≤ 140737488355328 := by omega
  have htk : (codesB s).take (k + 1) = (codesB s).take k ++ [c] := by rw [List.take_add_one, hx]; rfl
  clear h hkl hlen
  apply ya_intro HLB.out
  ·(simp only [go_sem, *]; try rfl)
  ·rfl
  ·decide
  ·rfl
  ·rfl
  ·(simp only [go_sem, *]; try rfl)
  intro rb BB hBB
  have HBB := Lib.hid hBB
  clear hBB
  repeat' first | apply x_seq | apply x_skip | apply x_block | apply x_exit | apply x_ret | apply x_ops_nil | apply p_blk | apply p_exit_it | apply p_exit_hit | apply p_ret_it | apply p_ret_blk | apply p_panic_it | apply p_panic_blk | apply p_end | (apply p_exit_miss; (· rfl)) | (apply x_region; simp only [List.toList_toArray]) | (apply x_step0; (· rfl); (· simp only [go_sem, *, Co]; try rfl); (· rfl); simp only [putA]) | (apply ac_ret; simp only [putA]) | apply ac_panic | (apply x_panic; (· simp only [go_sem, *, Co]; try rfl); (· rfl); (· simp only [go_sem, *, Co]; try rfl)) | (apply x_step; (iterate 2 (· simp only [go_sem, *, Co]; try rfl)); (· rfl); simp only [putA]) | (apply x_unwanted; (· simp only [go_sem, *, Co]; try rfl); (· rfl); simp only [putA]) | (apply x_condT; (· simp only [go_sem, *, Co]; try rfl)) | (apply x_condF; (· simp only [go_sem, *, Co]; try rfl)) | (apply x_guardS; (· rfl); (fail_if_success (focus (show _ = some true; (· simp only [go_sem, *, Co]; try rfl)))); (· simp only [go_sem, *, Co]; try rfl); all_goals (intro hb; try simp only [bnn] at hb)) | (apply x_condS; (· simp only [go_sem, *, Co]; try rfl); all_goals (intro hb; try simp only [bnn] at hb)) | fail
  apply yb_intro
  ·(simp only [go_sem, *]; try rfl)
  ·(simp only [go_sem, *]; try rfl)
  have okC := Co.ok ((codesB s).take k)
  simp only [okEls, AV.cells] at okC
  repeat' first | apply x_seq | apply x_skip | apply x_block | apply x_exit | apply x_ret | apply x_ops_nil | apply p_blk | apply p_exit_it | apply p_exit_hit | apply p_ret_it | apply p_ret_blk | apply p_panic_it | apply p_panic_blk | apply p_end | (apply p_exit_miss; (· rfl)) | (apply x_region; simp only [List.toList_toArray]) | (apply x_step0; (· rfl); (· simp only [go_sem, *, List.length_map]; try rfl); (· rfl); simp only [putA]) | (apply ac_ret; simp only [putA]) | apply ac_panic | (apply x_panic; (· simp only [go_sem, *, List.length_map]; try rfl); (· rfl); (· simp only [go_sem, *, List.length_map]; try rfl)) | (apply x_step; (iterate 2 (· simp only [go_sem, *, List.length_map]; try rfl)); (· rfl); simp only [putA]) | (apply x_unwanted; (· simp only [go_sem, *, List.length_map]; try rfl); (· rfl); simp only [putA]) | (apply x_condT; (· simp only [go_sem, *, List.length_map]; try rfl)) | (apply x_condF; (· simp only [go_sem, *, List.length_map]; try rfl)) | (apply x_guardS; (· rfl); (fail_if_success (focus (show _ = some true; (· simp only [go_sem, *, List.length_map]; try rfl)))); (· simp only [go_sem, *, List.length_map]; try rfl); all_goals (intro hb; try simp only [bnn] at hb)) | (apply x_condS; (· simp only [go_sem, *, List.length_map]; try rfl); all_goals (intro hb; try simp only [bnn] at hb)) | fail
  apply rp_n HLB.out HBB.out
  ·(simp only [go_sem, *]; try rfl)
  ·(simp only [go_sem, *]; try rfl)
  have key := hR1 _ [Blk.arr 3 1 0 0 [Co c]] rfl
  rw [htk, List.map_append] at key
  simpa only [app_assoc, List.cons_append, List.nil_append, Co, List.map_cons, List.map_nil] using key
 ·simp [app_assoc]
 ·rintro _ rfl
  have htl : (codesB s).take (codesB s).length = codesB s := List.take_length
  rw [htl]
  clear hs hlen
  apply ar_none HLB.out rfl
  ·(simp only [go_sem, *]; try rfl)
  ·(simp only [go_sem, *]; try rfl)
  repeat' first | refine st ?_ | (refine br ?_ ?_; all_goals (intro hb; try simp only [bnn] at hb)) | fail
  (apply f_ret; iterate 7 (· simp only [go_sem, *, Tryz.results186]; try rfl))
  exact h
def encV : List Nat → List Nat
 | [] => []
 | [a] => [a / 4, a % 4 * 16]
 | [a, b] => [a / 4, a % 4 * 16 + b / 16, b % 16 * 4]
 | a :: b :: c :: r => a / 4 :: (a % 4 * 16 + b / 16) :: (b % 16 * 4 + c / 64) :: c % 64 :: encV r
structure EncS where
 out : List Nat
 wait : Nat
 rest : Nat
def encStep (q : EncS) (c : Nat) : EncS :=
 if q.wait = 0 then ⟨q.out ++ [(q.rest * 256 + c) / 4], 2, (q.rest * 256 + c) % 4⟩
 else if q.wait = 2 then ⟨q.out ++ [(q.rest * 256 + c) / 16], 4, (q.rest * 256 + c) % 16⟩
 else ⟨q.out ++ [(q.rest * 256 + c) / 64, (q.rest * 256 + c) % 64], 0, 0⟩
def encEnd (q : EncS) : List Nat := if q.wait = 0 then q.out else if q.wait = 2 then q.out ++ [q.rest * 16] else q.out ++ [q.rest * 4]
def encP (s : List Nat) : EncS := s.foldl encStep ⟨[], 0, 0⟩
theorem enc_fold : ∀ (s : List Nat) (o : List Nat), (∀ x ∈ s, x < 256) → encEnd (s.foldl encStep ⟨o, 0, 0⟩) = o ++ encV s
 | [], o, _ => by simp [encEnd, encV]
 | [a], o, h => by
  have ha := h a (by simp)
  simp [encStep, encEnd, encV]
 | [a, b], o, h => by
  have ha := h a (by simp)
  have hb := h b (by simp)
  simp [encStep, encEnd, encV]
  omega
 | a :: b :: c :: r, o, h => by
  have ha := h a (by simp)
  have hb := h b (by simp)
  have hc := h c (by simp)
  have ih := enc_fold r (o ++ [a / 4, a % 4 * 16 + b / 16, b % 16 * 4 + c / 64, c % 64]) (fun x hx => h x (by simp [hx]))
  have e : (a :: b :: c :: r).foldl encStep ⟨o, 0, 0⟩ = r.foldl encStep ⟨o ++ [a / 4, a % 4 * 16 + b / 16, b % 16 * 4 + c / 64, c % 64], 0, 0⟩ := by
   simp only [List.foldl_cons]
   congr 1
   simp [encStep]
   omega
  rw [e, ih]
  simp [encV]
theorem enc_prog (s : List Nat) (h : ∀ x ∈ s, x < 256) : encEnd (encP s) = encV s := by
 have := enc_fold s [] h
 simpa [encP] using this
def decStep (q : EncS) (v : Nat) : EncS :=
 if q.wait = 0 then ⟨q.out, 6, q.rest * 64 + v⟩
 else if q.wait = 6 then ⟨q.out ++ [(q.rest * 64 + v) / 16], 4, (q.rest * 64 + v) % 16⟩
 else if q.wait = 4 then ⟨q.out ++ [(q.rest * 64 + v) / 4], 2, (q.rest * 64 + v) % 4⟩
 else ⟨q.out ++ [q.rest * 64 + v], 0, 0⟩
def decV : List Nat → EncS
 | [] => ⟨[], 0, 0⟩
 | [a] => ⟨[], 6, a⟩
 | [a, b] => ⟨[a * 4 + b / 16], 4, b % 16⟩
 | [a, b, c] => ⟨[a * 4 + b / 16, b % 16 * 16 + c / 4], 2, c % 4⟩
 | a :: b :: c :: d :: r => ⟨(a * 4 + b / 16) :: (b % 16 * 16 + c / 4) :: (c % 4 * 64 + d) :: (decV r).out, (decV r).wait, (decV r).rest⟩
theorem dec_fold : ∀ (s : List Nat) (o : List Nat), (∀ x ∈ s, x < 64) → s.foldl decStep ⟨o, 0, 0⟩ = ⟨o ++ (decV s).out, (decV s).wait, (decV s).rest⟩
 | [], o, _ => by simp [decV]
 | [a], o, h => by simp [decStep, decV]
 | [a, b], o, h => by
  have hb := h b (by simp)
  simp [decStep, decV]
  omega
 | [a, b, c], o, h => by
  have hb := h b (by simp)
  have hc := h c (by simp)
  simp [decStep, decV]
  omega
 | a :: b :: c :: d :: r, o, h => by
  have hb := h b (by simp)
  have hc := h c (by simp)
  have hd := h d (by simp)
  have ih := dec_fold r (o ++ [a * 4 + b / 16, b % 16 * 16 + c / 4, c % 4 * 64 + d]) (fun x hx => h x (by simp [hx]))
  have e : (a :: b :: c :: d :: r).foldl decStep ⟨o, 0, 0⟩ = r.foldl decStep ⟨o ++ [a * 4 + b / 16, b % 16 * 16 + c / 4, c % 4 * 64 + d], 0, 0⟩ := by
   simp only [List.foldl_cons]
   congr 1
   simp [decStep]
   omega
  rw [e, ih]
  simp [decV]
theorem enc_dec : ∀ (s : List Nat), (∀ x ∈ s, x < 64) → (decV s).wait ≠ 6 → (decV s).rest = 0 → encV (decV s).out = s
 | [], _, _, _ => by simp [decV, encV]
 | [a], _, h1, _ => by simp [decV] at h1
 | [a, b], h, _, h2 => by
  have hb := h b (by simp)
  simp [decV] at h2
  simp [decV, encV]
  omega
 | [a, b, c], h, _, h2 => by
  have hb := h b (by simp)
  have hc := h c (by simp)
  simp [decV] at h2
  simp [decV, encV]
  omega
 | a :: b :: c :: d :: r, h, h1, h2 => by
  have hb := h b (by simp)
  have hc := h c (by simp)
  have hd := h d (by simp)
  have ih := enc_dec r (fun x hx => h x (by simp [hx])) (by simpa [decV] using h1) (by simpa [decV] using h2)
  simp only [decV, encV, ih]
  simp
  omega
theorem dec_enc : ∀ (t : List Nat), (∀ x ∈ t, x < 256) → (decV (encV t)).out = t ∧ (decV (encV t)).wait ≠ 6 ∧ (decV (encV t)).rest = 0
 | [], _ => by simp [decV, encV]
 | [a], h => by
  have ha := h a (by simp)
  simp [decV, encV]
  omega
 | [a, b], h => by
  have ha := h a (by simp)
  have hb := h b (by simp)
  simp [decV, encV]
  omega
 | a :: b :: c :: r, h => by
  have ha := h a (by simp)
  have hb := h b (by simp)
  have hc := h c (by simp)
  obtain ⟨h1, h2, h3⟩ := dec_enc r (fun x hx => h x (by simp [hx]))
  simp only [decV, encV, h1, h3]
  refine ⟨?_, h2, trivial⟩
  simp
  omega
theorem enc_lt : ∀ (t : List Nat), (∀ x ∈ t, x < 256) → ∀ v ∈ encV t, v < 64
 | [], _ => by simp [encV]
 | [a], h => by
  have ha := h a (by simp)
  simp [encV]
  omega
 | [a, b], h => by
  have ha := h a (by simp)
  have hb := h b (by simp)
  simp [encV]
  omega
 | a :: b :: c :: r, h => by
  have ha := h a (by simp)
  have hb := h b (by simp)
  have hc := h c (by simp)
  have ih := enc_lt r (fun x hx => h x (by simp [hx]))
  intro v hv
  simp only [encV, List.mem_cons] at hv
  rcases hv with rfl | rfl | rfl | rfl | hv
  ·omega
  ·omega
  ·omega
  ·omega
  ·exact ih v hv
theorem dec_lt : ∀ (s : List Nat), (∀ x ∈ s, x < 64) → ∀ v ∈ (decV s).out, v < 256
 | [], _ => by simp [decV]
 | [a], _ => by simp [decV]
 | [a, b], h => by
  have ha := h a (by simp)
  have hb := h b (by simp)
  simp [decV]
  omega
 | [a, b, c], h => by
  have ha := h a (by simp)
  have hb := h b (by simp)
  have hc := h c (by simp)
  simp [decV]
  omega
 | a :: b :: c :: d :: r, h => by
  have ha := h a (by simp)
  have hb := h b (by simp)
  have hc := h c (by simp)
  have hd := h d (by simp)
  have ih := dec_lt r (fun x hx => h x (by simp [hx]))
  intro v hv
  simp only [decV, List.mem_cons] at hv
  rcases hv with rfl | rfl | rfl | hv
  ·omega
  ·omega
  ·omega
  ·exact ih v hv
theorem enc_len : ∀ (t : List Nat), (encV t).length = (8 * t.length + 5) / 6
 | [] => by simp [encV]
 | [a] => by simp [encV]
 | [a, b] => by simp [encV]
 | a :: b :: c :: r => by
  have ih := enc_len r
  simp only [encV, List.length_cons, ih]
  omega
def signsL : List UInt8 := [65, 66, 67, 68, 69, 70, 71, 72, 73, 74, 75, 76, 77, 78, 79, 80, 81, 82, 83, 84, 85, 86, 87, 88, 89, 90, 97, 98, 99, 100, 101, 102, 103, 104, 105, 106, 107, 108, 109, 110, 111, 112, 113, 114, 115, 116, 117, 118, 119, 120, 121, 122, 48, 49, 50, 51, 52, 53, 54, 55, 56, 57, 43, 47]
def signC (v : Nat) : UInt8 := signsL.getD v 0
def valC (c : UInt8) : Option Nat := signsL.findIdx? (fun x => x == c)
theorem val_sign : ∀ v, v < 64 → valC (signC v) = some v := by decide +kernel
theorem sign_fill : ∀ v, v < 64 → signC v ≠ 61 := by decide +kernel
theorem val_fill : valC 61 = none := by decide +kernel
theorem val_some {c : UInt8} {v : Nat} (h : valC c = some v) : v < 64 ∧ signC v = c := by
 unfold valC at h
 rw [List.findIdx?_eq_some_iff_getElem] at h
 obtain ⟨h1, h2, _⟩ := h
 refine ⟨h1, ?_⟩
 unfold signC
 rw [List.getD_eq_getElem?_getD, List.getElem?_eq_getElem h1]
 simpa using h2
def valsC : List UInt8 → Option (List Nat)
 | [] => some []
 | c :: r => match valC c with
  | some v => (valsC r).map (v :: ·)
  | none => none
def takeC : List UInt8 → List Nat
 | [] => []
 | c :: r => match valC c with
  | some v => v :: takeC r
  | none => []
def trimC (s : List UInt8) : List UInt8 := (s.reverse.dropWhile (fun b => b == 61)).reverse
def encB (s : List UInt8) : List UInt8 := (encV (s.map UInt8.toNat)).map signC
def padN (n : Nat) : Nat := (4 - n % 4) % 4
def encF (s : List UInt8) : List UInt8 := encB s ++ List.replicate (padN (encB s).length) 61
def decP (s : List UInt8) : Option (List UInt8) :=
 if (trimC s).length ≠ s.length ∧ (s.length % 4 ≠ 0 ∨ 2 < s.length - (trimC s).length) then none else
  match valsC (trimC s) with
  | none => none
  | some V => if (decV V).wait = 6 ∨ (decV V).rest ≠ 0 then none else some ((decV V).out.map UInt8.ofNat)
def decT (s : List UInt8) : List UInt8 := (decV (takeC s)).out.map UInt8.ofNat
def decR (s : List UInt8) : Option (List UInt8) := if s ≠ encB (decT s) ∧ s ≠ encF (decT s) then none else some (decT s)
theorem vals_map : ∀ (V : List Nat), (∀ v ∈ V, v < 64) → valsC (V.map signC) = some V
 | [], _ => rfl
 | v :: V, h => by
  rw [List.map_cons, valsC, val_sign v (h v (by simp)), vals_map V (fun x hx => h x (by simp [hx]))]
  rfl
theorem vals_some : ∀ {s : List UInt8} {V : List Nat}, valsC s = some V → s = V.map signC ∧ ∀ v ∈ V, v < 64
 | [], V, h => by cases h; simp
 | c :: r, V, h => by
  rw [valsC] at h
  cases hc : valC c with
  | none => rw [hc] at h; cases h
  | some v =>
   rw [hc] at h
   simp only at h
   cases hr : valsC r with
   | none => rw [hr] at h; cases h
   | some W =>
    rw [hr] at h
    cases h
    obtain ⟨h1, h2⟩ := vals_some hr
    obtain ⟨h3, h4⟩ := val_some hc
    refine ⟨by rw [List.map_cons, h4, ← h1], ?_⟩
    intro x hx
    rcases List.mem_cons.1 hx with rfl | hx
    ·exact h3
    ·exact h2 x hx
theorem take_map : ∀ (V : List Nat) (k : Nat), (∀ v ∈ V, v < 64) → takeC (V.map signC ++ List.replicate k 61) = V
 | [], k, _ => by
  cases k with
  | zero => rfl
  | succ k => simp [List.replicate_succ, takeC, val_fill]
 | v :: V, k, h => by
  rw [List.map_cons, List.cons_append, takeC, val_sign v (h v (by simp))]
  simp only
  rw [take_map V k (fun x hx => h x (by simp [hx]))]
theorem drop_rep (l : List UInt8) (k : Nat) : (List.replicate k (61 : UInt8) ++ l).dropWhile (fun b => b == 61) = l.dropWhile (fun b => b == 61) := by
 induction k with
 | zero => rfl
 | succ k ih => rw [List.replicate_succ, List.cons_append, List.dropWhile_cons_of_pos (by rfl), ih]
theorem trim_map (V : List Nat) (k : Nat) (h : ∀ v ∈ V, v < 64) : trimC (V.map signC ++ List.replicate k 61) = V.map signC := by
 unfold trimC
 rw [List.reverse_append, List.reverse_replicate, drop_rep]
 cases hV : (V.map signC).reverse with
 | nil => have := congrArg List.reverse hV; simp at this; simp [this]
 | cons c r =>
  have hc : c ∈ V.map signC := by rw [← List.mem_reverse, hV]; simp
  obtain ⟨v, hv, rfl⟩ := List.mem_map.1 hc
  have hn := sign_fill v (h v hv)
  rw [List.dropWhile_cons_of_neg (by simpa using hn), ← hV, List.reverse_reverse]
theorem drop_split : ∀ (l : List UInt8), ∃ k, l = List.replicate k 61 ++ l.dropWhile (fun b => b == 61)
 | [] => ⟨0, rfl⟩
 | c :: r => by
  by_cases hc : c = 61
  ·subst hc
   obtain ⟨k, hk⟩ := drop_split r
   refine ⟨k + 1, ?_⟩
   rw [List.dropWhile_cons_of_pos (by rfl), List.replicate_succ, List.cons_append, ← hk]
  ·refine ⟨0, ?_⟩
   rw [List.dropWhile_cons_of_neg (by simpa using hc)]
   rfl
theorem trim_split (s : List UInt8) : ∃ k, s = trimC s ++ List.replicate k 61 := by
 obtain ⟨k, hk⟩ := drop_split s.reverse
 refine ⟨k, ?_⟩
 have := congrArg List.reverse hk
 rw [List.reverse_reverse, List.reverse_append, List.reverse_replicate] at this
 exact this
theorem dec_wait : ∀ V : List Nat, (decV V).wait = 6 ↔ V.length % 4 = 1
 | [] => by simp [decV]
 | [a] => by simp [decV]
 | [a, b] => by simp [decV]
 | [a, b, c] => by simp [decV]
 | a :: b :: c :: d :: r => by
  have ih := dec_wait r
  simp only [decV, List.length_cons, ih]
  omega
theorem toNat_ofNat : ∀ (l : List Nat), (∀ v ∈ l, v < 256) → (l.map UInt8.ofNat).map UInt8.toNat = l
 | [], _ => rfl
 | a :: l, h => by
  have ha := h a (by simp)
  rw [List.map_cons, List.map_cons, toNat_ofNat l (fun x hx => h x (by simp [hx]))]
  congr 1
  simp [UInt8.toNat_ofNat']
  omega
theorem toNat_lt (t : List UInt8) : ∀ v ∈ t.map UInt8.toNat, v < 256 := by
 intro v hv
 obtain ⟨c, _, rfl⟩ := List.mem_map.1 hv
 exact c.toNat_lt
theorem dec_same (s : List UInt8) : decP s = decR s := by
 by_cases hs : ∃ (V : List Nat) (k : Nat), (∀ v ∈ V, v < 64) ∧ s = V.map signC ++ List.replicate k 61
 ·obtain ⟨V, k, hV, rfl⟩ := hs
  unfold decP decR decT
  rw [take_map V k hV, trim_map V k hV, vals_map V hV]
  have ho := dec_lt V hV
  have hw := dec_wait V
  by_cases hq : (decV V).wait = 6 ∨ (decV V).rest ≠ 0
  ·simp only
   rw [if_pos hq]
   have hno : ¬ ((V.map signC ++ List.replicate k 61 = encB ((decV V).out.map UInt8.ofNat)) ∨ (V.map signC ++ List.replicate k 61 = encF ((decV V).out.map UInt8.ofNat))) := by
    intro he
    have he' : ∃ j, V.map signC ++ List.replicate k 61 = encB ((decV V).out.map UInt8.ofNat) ++ List.replicate j 61 := by
     rcases he with he | he
     ·exact ⟨0, by simpa using he⟩
     ·exact ⟨_, he⟩
    obtain ⟨j, he⟩ := he'
    have ht := congrArg takeC he
    unfold encB at ht
    rw [take_map V k hV, toNat_ofNat _ ho, take_map _ j (enc_lt _ ho)] at ht
    obtain ⟨_, h2, h3⟩ := dec_enc _ ho
    rw [← ht] at h2 h3
    rcases hq with hq | hq
    ·exact h2 hq
    ·exact hq h3
   split
   ·rw [if_pos ⟨fun e => hno (.inl e), fun e => hno (.inr e)⟩]
   ·rw [if_pos ⟨fun e => hno (.inl e), fun e => hno (.inr e)⟩]
  ·have h1 : (decV V).wait ≠ 6 := fun e => hq (.inl e)
   have h2 : (decV V).rest = 0 := Decidable.byContradiction fun e => hq (.inr e)
   have hb : encB ((decV V).out.map UInt8.ofNat) = V.map signC := by
    unfold encB
    rw [toNat_ofNat _ ho, enc_dec V hV h1 h2]
   simp only
   rw [if_neg hq]
   unfold encF
   rw [hb]
   simp only [List.length_append, List.length_map, List.length_replicate]
   have hl : V.length % 4 ≠ 1 := fun e => h1 (hw.2 e)
   have hk0 : (V.map signC ++ List.replicate k 61 = V.map signC) ↔ k = 0 := by
    constructor
    ·intro e
     have := congrArg List.length e
     simp at this
     exact this
    ·rintro rfl; simp
   have hkp : (V.map signC ++ List.replicate k 61 = V.map signC ++ List.replicate (padN V.length) 61) ↔ k = padN V.length := by
    constructor
    ·intro e
     have := congrArg List.length e
     simp at this
     exact this
    ·rintro rfl; rfl
   by_cases hg : k = 0 ∨ k = padN V.length
   ·rw [if_neg (by unfold padN at hg; omega), if_neg (by rw [ne_eq, ne_eq, hk0, hkp]; omega)]
   ·rw [if_pos (by unfold padN at hg; omega), if_pos (by rw [ne_eq, ne_eq, hk0, hkp]; omega)]
 ·have e1 : decP s = none := by
   unfold decP
   split
   ·rfl
   ·cases hv : valsC (trimC s) with
    | none => rfl
    | some V =>
     exfalso
     obtain ⟨k, hk⟩ := trim_split s
     obtain ⟨h1, h2⟩ := vals_some hv
     exact hs ⟨V, k, h2, by rw [← h1]; exact hk⟩
  have e2 : decR s = none := by
   unfold decR
   rw [if_pos]
   constructor
   ·intro e
    exact hs ⟨_, 0, enc_lt _ (toNat_lt (decT s)), by rw [List.replicate_zero, List.append_nil]; exact e⟩
   ·intro e
    exact hs ⟨_, _, enc_lt _ (toNat_lt (decT s)), e⟩
  rw [e1, e2]
end Go.Proofs.YthdbijpefkapnaaGreatDoor
