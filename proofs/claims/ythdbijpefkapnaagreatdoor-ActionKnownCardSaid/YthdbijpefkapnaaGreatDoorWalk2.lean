/- YthdbijpefkapnaaGreatDoorWalk2. Texts of the proof of a law about texts: a layer of abstract values above the worlds, the types, the walks of the functions that the law reaches, the law and its card. Own work of an AI agent. -/
import Derived.Test.YthdbijpefkapnaaGreatDoorWalk1
import Derived.Shelf.Strings.Search1
import Derived.Test.YthdbijpefkapnaaGreatDoorShelf
import Derived.Test.YthdbijpefkapnaaGreatDoorCore1
import Derived.Shelf.Strings.Repeat
import Derived.Shelf.Strings.SlTrimAscii
import Derived.Shelf.Strings.Count
import Derived.Test.YthdbijpefkapnaaGreatDoorWalk0
import Derived.Shelf.Strconv.ToError
import Derived.Shelf.Strconv.ToErrorRange
import Derived.Shelf.Strconv.Atoi
import Derived.Lib.AtoiErrMem
set_option linter.all false
set_option linter.unusedVariables false
set_option linter.unusedSimpArgs false
namespace Go.Proofs.YthdbijpefkapnaaGreatDoor
open Go Go.Fen
set_option linter.unusedSimpArgs false
set_option linter.unusedVariables false
attribute [local irreducible] RunX WP ACall AnyP OpA ProtL afterCall afterOp
set_option maxRecDepth 8000
inductive Sp where
 | rng (a b : Int)
 | zt
def Sp.ok : Sp → Int → Bool
 | .rng a b, n => decide (a ≤ n) && decide (n ≤ b)
 | .zt, n => n == 0 || n == 3
def Sp.fv : Sp → AV
 | .rng a b => .fn (.func 35) [.agg [.int .i64 a, .int .i64 b]] []
 | .zt => .fn (.func 54) [] []
def numT : List (Int × Sp × Sp) := [(17, .rng 0 3, .rng 0 1), (18, .rng 2 3, .rng 0 0), (19, .rng 1 9999, .rng 1 9999), (20, .rng 0 3, .rng 1 9999), (26, .rng 0 3, .rng 0 0), (27, .rng 0 2, .rng 0 0), (35, .zt, .rng 0 0), (38, .rng 0 9999, .rng 0 9999), (40, .rng 0 6, .rng 0 0), (41, .rng 5 6, .rng 0 0), (2, .rng 0 0, .rng 0 0), (3, .rng 0 0, .rng 0 0), (4, .rng 0 0, .rng 0 0), (5, .rng 0 0, .rng 0 0), (6, .rng 0 0, .rng 0 0), (8, .rng 0 0, .rng 0 0), (9, .rng 0 0, .rng 0 0), (10, .rng 0 0, .rng 0 0), (11, .rng 0 0, .rng 0 0), (12, .rng 0 0, .rng 0 0), (13, .rng 0 0, .rng 0 0), (15, .rng 0 0, .rng 0 0), (16, .rng 0 0, .rng 0 0), (7, .rng 0 1, .rng 0 0), (14, .rng 0 1, .rng 0 0), (42, .rng 0 1, .rng 0 0), (21, .rng 0 1, .rng 1 9999), (33, .rng 0 1, .rng 1 9999), (22, .rng 1 9999, .rng 0 0), (23, .rng 1 9999, .rng 0 0), (24, .rng 1 9999, .rng 0 0), (25, .rng 1 9999, .rng 0 0), (28, .rng 1 9999, .rng 0 0), (29, .rng 1 9999, .rng 0 0), (30, .rng 1 9999, .rng 0 0), (31, .rng 1 9999, .rng 0 0), (32, .rng 1 9999, .rng 0 0), (34, .rng 1 9999, .rng 0 0), (36, .rng 0 9999, .rng 0 1), (37, .rng 0 9999, .rng 0 1), (43, .rng 0 9999, .rng 0 1)]
def numE : List (AV × AV) := numT.map fun p => (.int .i64 p.1, .agg [p.2.1.fv, p.2.2.fv])
theorem aHas (w0 : World) (S : List Blk) (a b n : Int) (R : Rt) (h : R (.ret (.bool (decide (a ≤ n) && decide (n ≤ b)))) S) : ACall Tryz.prog w0 35 [.agg [.int .i64 a, .int .i64 b], .int .i64 n] S R := by
 cases d : decide (a ≤ n) <;> rw [d] at h
 all_goals
  refine en Tryz.func35 rfl Tryz.ntmps35 fun hO => ?_
  repeat' first | refine st ?_ | (refine br ?_ ?_; all_goals (intro hb; try simp only [bnn] at hb)) | fail
  (apply f_ret; iterate 7 (· simp only [go_sem, *, Tryz.results35]; try rfl))
  first | exact h | (simpa using h)
theorem aZt (w0 : World) (S : List Blk) (n : Int) (R : Rt) (h : R (.ret (.bool (n == 0 || n == 3))) S) : ACall Tryz.prog w0 54 [.int .i64 n] S R := by
 cases d : n == 0 <;> rw [d] at h
 all_goals
  refine en Tryz.func54 rfl Tryz.ntmps54 fun hO => ?_
  repeat' first | refine st ?_ | (refine br ?_ ?_; all_goals (intro hb; try simp only [bnn] at hb)) | fail
  (apply f_ret; iterate 7 (· simp only [go_sem, *, Tryz.results54]; try rfl))
  first | exact h | (simpa using h)
theorem aLimits (w0 : World) (S : List Blk) (R : Rt) (h : R (.ret (.tup [(Sp.rng 0 0).fv, (Sp.rng 0 1).fv, (Sp.rng 1 9999).fv, (Sp.rng 0 9999).fv])) S) : ACall Tryz.prog w0 53 [] S R := by
 simp only [Sp.fv] at h
 refine en Tryz.func53 rfl Tryz.ntmps53 fun hO => ?_
 repeat' first | refine st ?_ | (refine br ?_ ?_; all_goals (intro hb; try simp only [bnn] at hb)) | fail
 (apply f_ret; iterate 7 (· simp only [go_sem, *, Tryz.results53]; try rfl))
 exact h
set_option maxHeartbeats 40000000 in
theorem aNumbers (w0 : World) (S : List Blk) (R : Rt) (h : R (.ret (.mval numE)) S) : ACall Tryz.prog w0 29 [] S R := by
 have hl := aLimits w0
 simp only [Sp.fv] at hl
 simp only [numE, numT, List.map_cons, List.map_nil, Sp.fv] at h
 have H := Lib.hid h
 clear h
 refine en Tryz.func29 rfl Tryz.ntmps29 fun hO => ?_
 repeat' first | refine st ?_ | (refine ca ?_; first | apply hl) | (refine br ?_ ?_; all_goals (intro hb; try simp only [bnn] at hb)) | apply x_loop | apply x_lp | fail
 (apply f_ret; iterate 7 (· simp only [go_sem, *, Tryz.results29]; try rfl))
 exact H.out
theorem oSize (w0 : World) (S : List Blk) (n : Nat) (hn : n ≤ 100000) (R : Rt) (h : R (.ret (.int .i64 (((n + 2) / 3 * 4 : Nat) : Int))) S) : ACall Tryz.prog w0 194 [.int .i64 n] S R := by
 have m1 : (if (1099511627776 : Int) < (n : Int) then (1099511627776 : Int) else (n : Int)) = (n : Int) := by rw [if_neg (by omega)]
 have m2 : (if (n : Int) > 0 then (n : Int) else 0) = (n : Int) := by split <;> omega
 have k1 : IntKind.i64.wrap ((n : Int) + 2) = ((n + 2 : Nat) : Int) := by rw [IntWalk.i64_in _ (by omega)]; omega
 have k2 : IntKind.i64.wrap (((n + 2 : Nat) : Int).tdiv 3) = (((n + 2) / 3 : Nat) : Int) := tdK (n + 2) 3 (by omega)
 have k3 : IntKind.i64.wrap ((((n + 2) / 3 : Nat) : Int) * 4) = (((n + 2) / 3 * 4 : Nat) : Int) := by rw [IntWalk.i64_in _ (by omega)]; omega
 clear hn
 refine en Tryz.func194 rfl Tryz.ntmps194 fun hO => ?_
 repeat' first | refine st ?_ | (refine br ?_ ?_; all_goals (intro hb; try simp only [bnn] at hb)) | fail
 (apply f_ret; iterate 7 (· simp only [go_sem, *, Tryz.results194]; try rfl))
 exact h
theorem oRgb (w0 : World) (S : List Blk) (n : Int) (hn : colB 2 n = true) (R : Rt) (h : R (.ret (.tup [.int .i64 n, .bool true])) S) : ACall Tryz.prog w0 188 [.agg [.int .i64 2, .int .i64 n]] S R := by
 have hc := fun S' => oColCheck w0 S' 2 n
 rw [hn, if_pos rfl] at hc
 clear hn
 refine en Tryz.func188 rfl Tryz.ntmps188 fun hO => ?_
 repeat' first | refine st ?_ | (refine ca ?_; first | apply hc) | (refine br ?_ ?_; all_goals (intro hb; try simp only [bnn] at hb)) | fail
 (apply f_ret; iterate 7 (· simp only [go_sem, *, Tryz.results188]; try rfl))
 exact h
theorem idx59 (s : List UInt8) : Lib.indexByte s 59 = if s.dropWhile (fun b => b != 59) = [] then -1 else ((s.takeWhile (fun b => b != 59)).length : Int) := by
 induction s with
 | nil => rfl
 | cons b l ih =>
  rw [Lib.indexByte, List.dropWhile_cons, List.takeWhile_cons]
  by_cases hb : b = 59
  ·subst hb; simp
  ·have h1 : (b == 59) = false := by simpa using hb
   have h2 : (b != 59) = true := by simpa using hb
   rw [h1, h2]
   simp only [Bool.false_eq_true, if_false, if_true]
   rw [ih]
   split
   ·simp
   ·rw [if_neg (by simp)]
    simp
theorem oIdx (w0 : World) (S : List Blk) (s : List UInt8) (R : Rt) (h : R (.ret (.int .i64 (Lib.indexByte s 59))) S) : ACall Tryz.prog w0 307 [.str s, .int .u8 59] S R := by
 refine ACall.lib (vs := [.string ⟨s.toArray⟩, .int .u8 59]) (v := .int .i64 (Lib.indexByte s 59)) (c := .int .i64 (Lib.indexByte s 59)) (Go.Proofs.enters_of Tryz.func307 (by kernel_rfl) rfl) rfl rfl ?_ h
 intro w hb
 refine (Go.Proofs.Any.stringslite_IndexByte Go.Proofs.Tryz.lays217 ⟨s.toArray⟩ 59 w).mono ?_
 rintro e w' ⟨rfl, rfl⟩
 exact ⟨rfl, RowKit.Below.refl _ _⟩
theorem oIndex (w0 : World) (S : List Blk) (s : List UInt8) (R : Rt) (h : R (.ret (.int .i64 (Lib.indexByte s 59))) S) : ACall Tryz.prog w0 281 [.str s, .str [59]] S R := by
 have hi := fun S' => oIdx w0 S' s
 by_cases hs : s = [59]
 ·subst hs
  have h : R (.ret (.int .i64 0)) S := h
  clear hi
  refine en Tryz.func281 rfl Tryz.ntmps281 fun hO => ?_
  repeat' first | refine st ?_ | (refine br ?_ ?_; all_goals (intro hb; try simp only [bnn] at hb)) | fail
  (apply f_ret; iterate 7 (· simp only [go_sem, *, Tryz.results281]; try rfl))
  exact h
 ·have hne : (([59] : List UInt8) == s) = false := by
   rw [beq_eq_false_iff_ne]
   exact fun e => hs e.symm
  generalize Lib.indexByte s 59 = i at h hi
  clear hs
  refine en Tryz.func281 rfl Tryz.ntmps281 fun hO => ?_
  repeat' first | refine st ?_ | (refine ca ?_; first | apply hi) | (refine br ?_ ?_; all_goals (intro hb; try simp only [bnn] at hb)) | fail
  (apply f_ret; iterate 7 (· simp only [go_sem, *, Tryz.results281]; try rfl))
  exact h
def cutW (s : List UInt8) : AV := match cutO s with | some q => .tup [.str q.1, .str q.2, .bool true] | none => .tup [.str s, .str [], .bool false]
theorem oCut0 (w0 : World) (S : List Blk) (s : List UInt8) (hs : s.length ≤ 10000000) (R : Rt) (h : R (.ret (cutW s)) S) : ACall Tryz.prog w0 238 [.str s, .str [59]] S R := by
 have hi := fun S' => oIndex w0 S' s
 have htd := List.takeWhile_append_dropWhile (p := fun b => b != 59) (l := s)
 rw [idx59] at hi
 by_cases hd : s.dropWhile (fun b => b != 59) = []
 ·rw [if_pos hd] at hi
  unfold cutW cutO at h
  rw [if_pos hd] at h
  have h : R (.ret (.tup [.str s, .str [], .bool false])) S := h
  clear htd hd hs
  refine en Tryz.func238 rfl Tryz.ntmps238 fun hO => ?_
  repeat' first | refine st ?_ | (refine ca ?_; first | apply hi) | (refine br ?_ ?_; all_goals (intro hb; try simp only [bnn] at hb)) | fail
  (apply f_ret; iterate 7 (· simp only [go_sem, *, Tryz.results238]; try rfl))
  exact h
 ·rw [if_neg hd] at hi
  unfold cutW cutO at h
  rw [if_neg hd] at h
  have h : R (.ret (.tup [.str (s.takeWhile (fun b => b != 59)), .str ((s.dropWhile (fun b => b != 59)).drop 1), .bool true])) S := h
  obtain ⟨W, hW⟩ : ∃ W, s.takeWhile (fun b => b != 59) = W := ⟨_, rfl⟩
  obtain ⟨D, hD⟩ : ∃ D, s.dropWhile (fun b => b != 59) = D := ⟨_, rfl⟩
  rw [hW] at hi h htd
  rw [hD] at hd htd h
  have hdl : 0 < D.length := List.length_pos_iff.2 hd
  have hsl : s.length = W.length + D.length := by rw [← htd]; simp
  have d1 : decide ((0 : Int) ≤ (W.length : Int)) = true := by simp
  have hw : IntKind.i64.wrap ((W.length : Int) + ((1 : Nat) : Int)) = ((W.length + 1 : Nat) : Int) := by rw [IntWalk.i64_in _ (by omega)]; rfl
  have b1 : (W.length : Int) ≤ (s.length : Int) := by omega
  have b2 : ((W.length + 1 : Nat) : Int) ≤ (s.length : Int) := by omega
  have htk : List.take W.length s = W := by rw [← htd]; simp
  have hdk : List.drop (W.length + 1) s = D.drop 1 := by rw [← htd, ← List.drop_drop]; simp
  have hts : List.take s.length s = s := List.take_length
  generalize hE : D.drop 1 = E at h hdk
  clear hD hW hd htd hsl hdl hs hE
  refine en Tryz.func238 rfl Tryz.ntmps238 fun hO => ?_
  repeat' first | refine st ?_ | (refine ca ?_; first | apply hi) | (refine br ?_ ?_; all_goals (intro hb; try simp only [bnn] at hb)) | refine sd ?_ | apply pl_nil | (apply c_end; (· decide +kernel)) | refine bd ?_ ?_ | (refine cd ?_; first | apply hi) | fail
  all_goals (apply f_ret; iterate 7 (· simp only [go_sem, *, Tryz.results238]; try rfl))
  all_goals exact h
theorem oCut (w0 : World) (S : List Blk) (s : List UInt8) (hs : s.length ≤ 10000000) (R : Rt) (h : R (.ret (cutW s)) S) : ACall Tryz.prog w0 202 [.str s, .str [59]] S R := by
 have hi := fun S' => oCut0 w0 S' s hs
 unfold cutW at h hi
 clear hs
 cases hq : cutO s with
 | none =>
  rw [hq] at h hi
  clear hq
  refine en Tryz.func202 rfl Tryz.ntmps202 fun hO => ?_
  repeat' first | refine st ?_ | (refine ca ?_; first | apply hi) | (refine br ?_ ?_; all_goals (intro hb; try simp only [bnn] at hb)) | fail
  (apply f_ret; iterate 7 (· simp only [go_sem, *, Tryz.results202]; try rfl))
  exact h
 | some q =>
  rw [hq] at h hi
  obtain ⟨u, v⟩ := q
  simp only at h hi
  clear hq
  refine en Tryz.func202 rfl Tryz.ntmps202 fun hO => ?_
  repeat' first | refine st ?_ | (refine ca ?_; first | apply hi) | (refine br ?_ ?_; all_goals (intro hb; try simp only [bnn] at hb)) | fail
  (apply f_ret; iterate 7 (· simp only [go_sem, *, Tryz.results202]; try rfl))
  exact h
def twoV : Option (List UInt8 × List UInt8) → AOut
 | some q => .ret (.tup [.str q.1, .str q.2])
 | none => .panic noneV
theorem oTwo (w0 : World) (S : List Blk) (s : List UInt8) (hs : s.length ≤ 10000000) (R : Rt) (h : R (twoV (cutO s)) S) : ACall Tryz.prog w0 135 [.str s] S R := by
 have hi := fun S' => oCut w0 S' s hs
 have hT := oMustT w0
 have hF := oMustF w0
 unfold cutW at hi
 clear hs
 cases hq : cutO s with
 | none =>
  rw [hq] at h hi
  unfold twoV noneV at h
  unfold noneV at hF
  clear hq hT
  refine en Tryz.func135 rfl Tryz.ntmps135 fun hO => ?_
  repeat' first | refine st ?_ | (refine ca ?_; first | apply hi | apply hF) | (refine br ?_ ?_; all_goals (intro hb; try simp only [bnn] at hb)) | fail
  (apply f_panic; iterate 6 (· simp only [go_sem, *]; try rfl))
  exact h
 | some q =>
  rw [hq] at h hi
  obtain ⟨u, v⟩ := q
  unfold twoV at h
  simp only at h hi
  clear hq hF
  refine en Tryz.func135 rfl Tryz.ntmps135 fun hO => ?_
  repeat' first | refine st ?_ | (refine ca ?_; first | apply hi | apply hT) | (refine br ?_ ?_; all_goals (intro hb; try simp only [bnn] at hb)) | fail
  (apply f_ret; iterate 7 (· simp only [go_sem, *, Tryz.results135]; try rfl))
  exact h
theorem oRead1 (w0 : World) (S : List Blk) (s : List UInt8) (hs : s.length ≤ 10000000) (R : Rt) (h : R (if titleB s then .ret (Ac.av ⟨44, 0, 0, 0, 0, s⟩) else .panic noneV) S) : ACall Tryz.prog w0 203 [.str s] S R := by
 have ht := fun S' => oTitle w0 S' s hs
 unfold Ac.av at h
 clear hs
 cases hb : titleB s with
 | true =>
  rw [hb, if_pos rfl] at h
  rw [hb, if_pos rfl] at ht
  simp only at h
  clear hb
  refine en Tryz.func203 rfl Tryz.ntmps203 fun hO => ?_
  repeat' first | refine st ?_ | (refine ca ?_; first | apply ht) | (refine br ?_ ?_; all_goals (intro hb; try simp only [bnn] at hb)) | fail
  (apply f_ret; iterate 7 (· simp only [go_sem, *, Tryz.results203]; try rfl))
  exact h
 | false =>
  rw [hb, if_neg (by decide)] at h
  rw [hb, if_neg (by decide)] at ht
  unfold noneV at h ht
  clear hb
  refine en Tryz.func203 rfl Tryz.ntmps203 fun hO => ?_
  repeat' first | refine st ?_ | (refine ca ?_; first | apply ht) | (refine br ?_ ?_; all_goals (intro hb; try simp only [bnn] at hb)) | fail
  (apply f_panic; iterate 6 (· simp only [go_sem, *]; try rfl))
  exact h
theorem oPrint1 (w0 : World) (S : List Blk) (a : Ac) (hs : a.text.length ≤ 10000000) (hk : a.kind = 44) (R : Rt) (h : R (if a = ⟨44, 0, 0, 0, 0, a.text⟩ ∧ titleB a.text = true then .ret (.str (50 :: 59 :: a.text)) else .panic noneV) S) : ACall Tryz.prog w0 111 [a.av] S R := by
 have ht := fun S' => oTitle w0 S' a.text hs
 have hpT := fun S' => oPlainT w0 S' a ⟨a.kind, 0, 0, 0, 0, a.text⟩
 have hpF := fun S' => oPlainF w0 S' a ⟨a.kind, 0, 0, 0, 0, a.text⟩
 obtain ⟨k, n, m, ck, cn, t⟩ := a
 simp only at hk hs ht hpT hpF h
 subst hk
 unfold Ac.av at hpT hpF ⊢
 simp only at hpT hpF ⊢
 have hl : 2 + t.length ≤ 9223372036854775807 := by omega
 clear hs
 by_cases he : (⟨44, n, m, ck, cn, t⟩ : Ac) = ⟨44, 0, 0, 0, 0, t⟩
 ·have hp := fun S' => hpT S' he
  cases hb : titleB t with
  | true =>
   rw [if_pos ⟨he, hb⟩] at h
   rw [hb, if_pos rfl] at ht
   clear hpT hpF he hb
   refine en Tryz.func111 rfl Tryz.ntmps111 fun hO => ?_
   repeat' first | refine st ?_ | (refine ca ?_; first | apply hp | apply ht) | (refine br ?_ ?_; all_goals (intro hb; try simp only [bnn] at hb)) | fail
   (apply f_ret; iterate 7 (· simp only [go_sem, *, Tryz.results111]; try rfl))
   exact h
  | false =>
   rw [if_neg (by rw [hb]; simp)] at h
   rw [hb, if_neg (by decide)] at ht
   unfold noneV at h ht
   clear hpT hpF he hb
   refine en Tryz.func111 rfl Tryz.ntmps111 fun hO => ?_
   repeat' first | refine st ?_ | (refine ca ?_; first | apply hp | apply ht) | (refine br ?_ ?_; all_goals (intro hb; try simp only [bnn] at hb)) | fail
   (apply f_panic; iterate 6 (· simp only [go_sem, *]; try rfl))
   exact h
 ·have hp := fun S' => hpF S' he
  rw [if_neg (fun e => he e.1)] at h
  unfold noneV at h hp
  clear hpT hpF he ht
  refine en Tryz.func111 rfl Tryz.ntmps111 fun hO => ?_
  repeat' first | refine st ?_ | (refine ca ?_; first | apply hp) | (refine br ?_ ?_; all_goals (intro hb; try simp only [bnn] at hb)) | fail
  (apply f_panic; iterate 6 (· simp only [go_sem, *]; try rfl))
  exact h
def ParseOk (w0 : World) : Prop := ∀ (S : List Blk) (s : List UInt8), s.length ≤ 8192 → ∀ (R : Rt), R (.ret (parV (parseO s))) S → ACall Tryz.prog w0 74 [.str s] S R
def PrintOk (w0 : World) : Prop := ∀ (S : List Blk) (a : Ac), a.text.length ≤ 10000 → ∀ (R : Rt), R (.ret (printV (printO a))) S → ACall Tryz.prog w0 28 [a.av] S R
def prT (o : Option (List UInt8)) : List UInt8 := o.getD []
def prE (o : Option (List UInt8)) : Int := if o.isSome then 0 else 2
theorem printV_eq (o : Option (List UInt8)) : printV o = .tup [.str (prT o), .int .i64 (prE o)] := by cases o <;> rfl
set_option maxHeartbeats 1000000 in
theorem writeByte (w0 : World) (S : List Blk) (a g i : Nat) (ad : AV) (bs : List UInt8) (c : UInt8) (hb : Bld S a g i ad bs) (hlen : (bs.length + 1) * 1 ≤ 140737488355328) (R : Rt)
  (h : R (.ret .inil) ((S.set g (.arr 5 1 0 (i + 1) ((bs ++ [c]).map bAV))).set a (.cells [.own a 0, .sown g (i + 1) (bs.length + 1)] (some 90)))) :
  ACall Tryz.prog w0 192 [.own a 0, .int .u8 c.toNat] S R := by
 obtain ⟨ha, hg, had⟩ := hb
 have hal := (List.getElem?_eq_some_iff.1 ha).1
 have hgl := (List.getElem?_eq_some_iff.1 hg).1
 have hne : a ≠ g := by rintro rfl; rw [ha] at hg; cases hg
 obtain ⟨S1, hS1⟩ : ∃ S1, S.set a (.cells [.own a 0, .sown g i bs.length] (some 90)) = S1 := ⟨_, rfl⟩
 have hck : ∀ R : AOut → List Blk → Prop, R (.ret (.tup [])) S1 → ACall Tryz.prog w0 87 [.own a 0] S R := by
  intro R hR
  rcases had with rfl | rfl
  ·exact copyCheck0 w0 S a _ ha (by simpa [AV.lt] using hgl) hal R (hS1 ▸ hR)
  ·have : S.set a (.cells [.own a 0, .sown g i bs.length] (some 90)) = S := set_self ha
   rw [this] at hS1
   exact copyCheck1 w0 S a _ ha R (hS1 ▸ hR)
 have h1 : S1[a]? = some (.cells [.own a 0, .sown g i bs.length] (some 90)) := by rw [← hS1]; simp [hal]
 have h2 : S1[g]? = some (.arr 5 1 0 i (bs.map bAV)) := by rw [← hS1, List.getElem?_set_ne hne]; exact hg
 have hl1 : S1.length = S.length := by rw [← hS1]; simp
 have hbl : (bs.map bAV).length = bs.length := by simp
 have h3 : ∀ B, (S1.set g B)[a]? = some (.cells [.own a 0, .sown g i bs.length] (some 90)) := by intro B; rw [List.getElem?_set_ne (Ne.symm hne)]; exact h1
 have hg1 : g < S1.length := by rw [hl1]; exact hgl
 have ha1 : a < S1.length := by rw [hl1]; exact hal
 have h4 : ∀ B, (S1 ++ [B])[g]? = some (.arr 5 1 0 i (bs.map bAV)) := by intro B; rw [List.getElem?_append_left hg1]; exact h2
 have h5 : ∀ B, (S1 ++ [B])[a]? = some (.cells [.own a 0, .sown g i bs.length] (some 90)) := by intro B; rw [List.getElem?_append_left ha1]; exact h1
 have h6 : ∀ B C, (S1 ++ [B]).set g C = S1.set g C ++ [B] := by intro B C; exact List.set_append_left _ _ hg1
 have h7 : ∀ B C, (S1.set g C ++ [B])[a]? = some (.cells [.own a 0, .sown g i bs.length] (some 90)) := by intro B C; rw [List.getElem?_append_left (by simpa using ha1)]; exact h3 C
 have h8 : ∀ B C D, (S1.set g C ++ [B]).set a D = (S1.set g C).set a D ++ [B] := by intro B C D; exact List.set_append_left _ _ (by simpa using ha1)
 have hfin : ∀ B C, (S1.set g B).set a C = (S.set g B).set a C := by
  intro B C
  rw [← hS1, List.set_comm _ _ hne, List.set_set]
 rw [List.map_append] at h
 have Hfin := Lib.hid hfin
 have Hal := Lib.hid (And.intro hal hgl)
 have H := Lib.hid h
 have Hl1 := Lib.hid hl1
 clear hg had hal hgl hne hS1 hfin h hg1 ha1 hl1
 refine en Tryz.func192 rfl Tryz.ntmps192 fun hO => ?_
 repeat' first | apply x_seq | apply x_skip | apply x_block | apply x_exit | apply x_ret | apply x_ops_nil | apply p_blk | apply p_exit_it | apply p_exit_hit | apply p_ret_it | apply p_ret_blk | apply p_panic_it | apply p_panic_blk | apply p_end | (apply p_exit_miss; (· rfl)) | (apply x_region; simp only [List.toList_toArray]) | (apply x_step0; (· rfl); (· simp only [go_sem, *, List.all_map, Function.comp_def, all_true]; try rfl); (· rfl); simp only [putA]) | (apply ac_ret; simp only [putA]) | apply ac_panic | (apply x_callA []; (· simp only [go_sem, *, List.all_map, Function.comp_def, all_true]; try rfl); (· rfl); (· simp only [go_sem, *, List.all_map, Function.comp_def, all_true]; try rfl); (· rfl); (iterate 2 (· simp only [go_sem, *, List.all_map, Function.comp_def, all_true]; try rfl)); (first | apply hck); simp only [afterCall, putA]) | (apply x_panic; (· simp only [go_sem, *, List.all_map, Function.comp_def, all_true]; try rfl); (· rfl); (· simp only [go_sem, *, List.all_map, Function.comp_def, all_true]; try rfl)) | (apply x_step; (iterate 2 (· simp only [go_sem, *, List.all_map, Function.comp_def, all_true]; try rfl)); (· rfl); simp only [putA]) | (apply x_unwanted; (· simp only [go_sem, *, List.all_map, Function.comp_def, all_true]; try rfl); (· rfl); simp only [putA]) | (apply x_condT; (· simp only [go_sem, *, List.all_map, Function.comp_def, all_true]; try rfl)) | (apply x_condF; (· simp only [go_sem, *, List.all_map, Function.comp_def, all_true]; try rfl)) | (apply x_guardS; (· rfl); (fail_if_success (focus (show _ = some true; (· simp only [go_sem, *, List.all_map, Function.comp_def, all_true]; try rfl)))); (· simp only [go_sem, *, List.all_map, Function.comp_def, all_true]; try rfl); all_goals (intro hb; try simp only [bnn] at hb)) | (apply x_condS; (· simp only [go_sem, *, List.all_map, Function.comp_def, all_true]; try rfl); all_goals (intro hb; try simp only [bnn] at hb)) | fail
 refine f_ret (by (simp only [go_sem, *]; try rfl)) (by (simp only [go_sem, *]; try rfl)) (by (simp only [go_sem, *, Tryz.results192]; try rfl)) (okOuter_of (S2 := (S1.set g (.arr 5 1 0 (i + 1) (List.map bAV bs ++ [bAV c]))).set a (.cells [.own a 0, .sown g (i + 1) (bs.length + 1)] (some 90))) ?_ ?_) (by (simp only [go_sem, *]; try rfl)) (by (simp only [go_sem, *]; try rfl)) rfl ?_
 ·have hb4 : ltL S.length (List.map bAV bs ++ [bAV c]) = true := by rw [show List.map bAV bs ++ [bAV c] = List.map bAV (bs ++ [c]) by simp]; exact bAV_ltL _ _
  rw [Hfin.out]
  refine OuterOk.set (OuterOk.set hO hb4) ?_
  have := Hal.out; simp [Blk.ltB, ltL, AV.lt, this.1, this.2]
 ·simpa using Hl1.out
 ·have e : ((S1.set g (.arr 5 1 0 (i + 1) (List.map bAV bs ++ [bAV c]))).set a (.cells [.own a 0, .sown g (i + 1) (bs.length + 1)] (some 90)) ++ [Blk.arr 5 1 0 0 [bAV c]]).take S.length = (S.set g (.arr 5 1 0 (i + 1) (List.map bAV bs ++ [bAV c]))).set a (.cells [.own a 0, .sown g (i + 1) (bs.length + 1)] (some 90)) := by
   rw [Hfin.out]
   have := List.take_left (l₁ := (S.set g (.arr 5 1 0 (i + 1) (List.map bAV bs ++ [bAV c]))).set a (.cells [.own a 0, .sown g (i + 1) (bs.length + 1)] (some 90))) (l₂ := [Blk.arr 5 1 0 0 [bAV c]])
   simpa using this
  refine cast ?_ H.out
  rw [show ([c].map bAV) = [bAV c] from rfl, ← e]
  rfl
def blkE (X : Nat) (ad : AV) (i : Nat) (bs : List UInt8) (fr tz : Int) (hv : AV) (wt rs : Int) : List Blk :=
 [Blk.cells [ad, .sown (X + 6) i bs.length] (some 90), Blk.cells [.int .i64 fr], Blk.cells [.int .i64 tz], Blk.cells [hv], Blk.cells [.int .i64 wt], Blk.cells [.int .i64 rs], Blk.arr 5 1 0 i (bs.map bAV)]
theorem wbE (w0 : World) (X : List Blk) (ad : AV) (had : ad = .nilp ∨ ad = .own X.length 0) (i : Nat) (bs : List UInt8) (fr tz : Int) (hv : AV) (wt rs : Int) (c : UInt8) (hlen : bs.length ≤ 1000000) (R : Rt)
  (h : R (.ret .inil) (X ++ blkE X.length (.own X.length 0) (i + 1) (bs ++ [c]) fr tz hv wt rs)) :
  ACall Tryz.prog w0 192 [.own X.length 0, .int .u8 c.toNat] (X ++ blkE X.length ad i bs fr tz hv wt rs) R := by
 refine writeByte w0 _ X.length (X.length + 6) i ad bs c ⟨by simp [blkE], by rw [List.getElem?_append_right (by omega)]; simp [blkE], had⟩ (by omega) R ?_
 have e : ((X ++ blkE X.length ad i bs fr tz hv wt rs).set (X.length + 6) (.arr 5 1 0 (i + 1) ((bs ++ [c]).map bAV))).set X.length (.cells [.own X.length 0, .sown (X.length + 6) (i + 1) (bs.length + 1)] (some 90)) =
   X ++ blkE X.length (.own X.length 0) (i + 1) (bs ++ [c]) fr tz hv wt rs := by
  unfold blkE
  rw [List.set_append_right _ _ (by omega), List.set_append_right _ _ (by omega)]
  simp
 rw [e]
 exact h
theorem okE (X : List Blk) (hX : OuterOk X) (ad : AV) (had : ad = .nilp ∨ ad = .own X.length 0) (i : Nat) (bs : List UInt8) (fr tz : Int) (f : Nat) (wt rs : Int) : OuterOk (X ++ blkE X.length ad i bs fr tz (.fn (.func f) [] [.own X.length 0]) wt rs) := by
 refine OuterOk.app hX ?_
 unfold blkE
 have h4 : ltL (X.length + 7) (List.map bAV bs) = true := bAV_ltL _ _
 rcases had with rfl | rfl <;> simp [Blk.ltB, ltL, AV.lt, h4]
set_option maxHeartbeats 1000000 in
theorem handE (w0 : World) (X : List Blk) (hX : OuterOk X) (ad : AV) (had : ad = .nilp ∨ ad = .own X.length 0) (i : Nat) (bs : List UInt8) (fr tz : Int) (wt rs : Int) (v : Nat) (hv : v < 64) (hlen : bs.length ≤ 1000000) (R : Rt)
  (h : R (.ret (.tup [])) (X ++ blkE X.length (.own X.length 0) (i + 1) (bs ++ [signC v]) fr tz (.fn (.func 191) [] [.own X.length 0]) wt rs)) :
  ACall Tryz.prog w0 191 [.int .i64 v, .own X.length 0] (X ++ blkE X.length ad i bs fr tz (.fn (.func 191) [] [.own X.length 0]) wt rs) R := by
 have hsg : ([65, 66, 67, 68, 69, 70, 71, 72, 73, 74, 75, 76, 77, 78, 79, 80, 81, 82, 83, 84, 85, 86, 87, 88, 89, 90, 97, 98, 99, 100, 101, 102, 103, 104, 105, 106, 107, 108, 109, 110, 111, 112, 113, 114, 115, 116, 117, 118, 119, 120, 121, 122, 48, 49, 50, 51, 52, 53, 54, 55, 56, 57, 43, 47] : List UInt8)[v]? = some (signC v) := by
  have : ∀ v, v < 64 → signsL[v]? = some (signC v) := by decide +kernel
  exact this v hv
 generalize signC v = c at h hsg
 have hw := wbE w0 X ad had i bs fr tz (.fn (.func 191) [] [.own X.length 0]) wt rs c hlen
 have hok := okE X hX (.own X.length 0) (.inr rfl) (i + 1) (bs ++ [c]) fr tz 191 wt rs
 generalize hS : X ++ blkE X.length (.own X.length 0) (i + 1) (bs ++ [c]) fr tz (.fn (.func 191) [] [.own X.length 0]) wt rs = S2 at *
 have hl2 : S2.length = X.length + 7 := by rw [← hS]; simp [blkE]
 have hl1 : (X ++ blkE X.length ad i bs fr tz (.fn (.func 191) [] [.own X.length 0]) wt rs).length = X.length + 7 := by simp [blkE]
 have hgt : (X ++ blkE X.length ad i bs fr tz (.fn (.func 191) [] [.own X.length 0]) wt rs)[X.length]? = some (Blk.cells [ad, .sown (X.length + 6) i bs.length] (some 90)) := by simp [blkE]
 generalize X ++ blkE X.length ad i bs fr tz (.fn (.func 191) [] [.own X.length 0]) wt rs = S1 at *
 clear hX had hlen hS hv
 have Hok := Lib.hid hok
 clear hok
 refine en Tryz.func191 rfl Tryz.ntmps191 fun hO => ?_
 repeat' first | refine st ?_ | (refine ca ?_; first | apply hw) | (refine br ?_ ?_; all_goals (intro hb; try simp only [bnn] at hb)) | fail
 (apply f_endX; iterate 5 (· simp only [go_sem, *, Tryz.results191]; try rfl))
 ·exact Hok.out
 ·rw [hl1, hl2]
 ·exact h
set_option maxHeartbeats 1000000 in
theorem regroupK (w0 : World) (S : List Blk) (fr tz : Int) (f a : Nat) (hfr : IntKind.i64.wrap fr = fr) (R : Rt)
  (h : R (.ret (.fn (.func 231) [] [.own (S.length + 4) 0, .own S.length 0, .own (S.length + 3) 0, .own (S.length + 1) 0, .own (S.length + 2) 0])) (S ++ [Blk.cells [.int .i64 fr], Blk.cells [.int .i64 tz], Blk.cells [.fn (.func f) [] [.own a 0]], Blk.cells [.int .i64 0], Blk.cells [.int .i64 0]])) :
  ACall Tryz.prog w0 190 [.int .i64 fr, .int .i64 tz, .fn (.func f) [] [.own a 0]] S R := by
 refine enterK Tryz.func190 rfl (by decide +kernel) (by rw [Tryz.ntmps190]; simp) (by rw [Tryz.ntmps190]; decide) (fun hO => ?_); rw [Tryz.ntmps190]
 repeat' first | refine st ?_ | (refine br ?_ ?_; all_goals (intro hb; try simp only [bnn] at hb)) | fail
 (apply f_retK; iterate 4 (· simp only [go_sem, *, Tryz.results190]; try rfl))
 exact h
theorem orK {a b k : Nat} (ha : a < 4294967296) (hk : k ≤ 16) (hb : b < 2 ^ k) : IntKind.i64.wrap (((BitVec.ofInt IntKind.i64.bits (IntKind.i64.wrap ((a : Int) * 2 ^ min k 64)) ||| BitVec.ofInt IntKind.i64.bits (b : Int)).toNat : Nat) : Int) = ((a * 2 ^ k + b : Nat) : Int) := by
 have h2 : 2 ^ k ≤ 2 ^ 16 := Nat.pow_le_pow_right (by omega) hk
 have h3 : a * 2 ^ k ≤ 4294967296 * 65536 := Nat.mul_le_mul (by omega) h2
 have e1 : IntKind.i64.wrap ((a : Int) * 2 ^ min k 64) = ((a * 2 ^ k : Nat) : Int) := by
  rw [Nat.min_eq_left (by omega), show ((a : Int) * 2 ^ k) = ((a * 2 ^ k : Nat) : Int) by simp]
  exact IntWalk.i64_in _ (by omega)
 rw [e1, BitVec.toNat_or]
 have e2 : (BitVec.ofInt IntKind.i64.bits ((a * 2 ^ k : Nat) : Int)).toNat = a * 2 ^ k := by
  show (BitVec.ofInt 64 _).toNat = _
  rw [BitVec.toNat_ofInt]; omega
 have e3 : (BitVec.ofInt IntKind.i64.bits (b : Int)).toNat = b := by
  show (BitVec.ofInt 64 _).toNat = _
  rw [BitVec.toNat_ofInt]; omega
 rw [e2, e3]
 have e4 : a * 2 ^ k ||| b = a * 2 ^ k + b := by
  have := Nat.shiftLeft_add_eq_or_of_lt hb a
  rw [Nat.shiftLeft_eq] at this
  exact this.symm
 rw [e4]
 exact IntWalk.i64_in _ (by omega)
theorem andK {m k : Nat} (hm : m < 4294967296) (hk : k ≤ 16) : IntKind.i64.wrap (((BitVec.ofInt IntKind.i64.bits (m : Int) &&& BitVec.ofInt IntKind.i64.bits ((2 ^ k - 1 : Nat) : Int)).toNat : Nat) : Int) = ((m % 2 ^ k : Nat) : Int) := by
 rw [BitVec.toNat_and]
 have h2 : 2 ^ k ≤ 2 ^ 16 := Nat.pow_le_pow_right (by omega) hk
 have h0 : 0 < 2 ^ k := Nat.two_pow_pos k
 have e1 : (BitVec.ofInt IntKind.i64.bits (m : Int)).toNat = m := by
  show (BitVec.ofInt 64 _).toNat = _
  rw [BitVec.toNat_ofInt]; omega
 have e2 : (BitVec.ofInt IntKind.i64.bits ((2 ^ k - 1 : Nat) : Int)).toNat = 2 ^ k - 1 := by
  show (BitVec.ofInt 64 _).toNat = _
  rw [BitVec.toNat_ofInt]; omega
 rw [e1, e2, Nat.and_two_pow_sub_one_eq_mod m k]
 have := Nat.mod_lt m h0
 exact IntWalk.i64_in _ (by omega)
theorem fdivK (m k : Nat) (hk : k ≤ 16) : (m : Int).fdiv (2 ^ min k 64) = ((m / 2 ^ k : Nat) : Int) := by
 rw [Nat.min_eq_left (by omega), Int.fdiv_eq_ediv_of_nonneg _ (by exact Int.le_of_lt (Int.pow_pos (by decide)))]
 simp
set_option maxHeartbeats 4000000 in
theorem regE (w0 : World) (X : List Blk) (hX : OuterOk X) (ad : AV) (had : ad = .nilp ∨ ad = .own X.length 0) (i : Nat) (q : EncS) (n : Nat) (hn : n < 256) (hq : (q.wait = 0 ∧ q.rest = 0) ∨ (q.wait = 2 ∧ q.rest < 4) ∨ (q.wait = 4 ∧ q.rest < 16)) (hlen : q.out.length ≤ 100000) (R : Rt)
  (h : ∀ i', R (.ret (.tup [.int .i64 ((encStep q n).wait : Nat), .int .i64 ((encStep q n).rest : Nat)])) (X ++ blkE X.length (.own X.length 0) i' ((encStep q n).out.map signC) 8 6 (.fn (.func 191) [] [.own X.length 0]) ((encStep q n).wait : Nat) ((encStep q n).rest : Nat))) :
  ACall Tryz.prog w0 231 [.int .i64 n, .own (X.length + 5) 0, .own (X.length + 1) 0, .own (X.length + 4) 0, .own (X.length + 2) 0, .own (X.length + 3) 0] (X ++ blkE X.length ad i (q.out.map signC) 8 6 (.fn (.func 191) [] [.own X.length 0]) (q.wait : Nat) (q.rest : Nat)) R := by
 obtain ⟨o, w, r⟩ := q
 have w2 : IntKind.i64.wrap 2 = 2 := by decide
 have w4 : IntKind.i64.wrap 4 = 4 := by decide
 have w6 : IntKind.i64.wrap 6 = 6 := by decide
 have w8 : IntKind.i64.wrap 8 = 8 := by decide
 have w10 : IntKind.i64.wrap 10 = 10 := by decide
 have w12 : IntKind.i64.wrap 12 = 12 := by decide
 have wz : IntKind.i64.wrap 0 = 0 := by decide
 have c0 : ((0 : Nat) : Int) = 0 := rfl
 have c2 : ((2 : Nat) : Int) = 2 := rfl
 have c4 : ((4 : Nat) : Int) = 4 := rfl
 simp only at hq hlen
 obtain ⟨m, hmm⟩ : ∃ m, m = r * 256 + n := ⟨_, rfl⟩
 have hor := orK (a := r) (b := n) (k := 8) (by omega) (by omega) (by omega)
 have hmp : r * 2 ^ 8 + n = m := by omega
 rw [hmp] at hor
 simp only [IntKind.bits] at hor
 clear hmp
 have hm : m < 256 * 2 ^ w := by rcases hq with ⟨rfl, hr⟩ | ⟨rfl, hr⟩ | ⟨rfl, hr⟩ <;> omega
 rcases hq with ⟨rfl, hr⟩ | ⟨rfl, hr⟩ | ⟨rfl, hr⟩
 ·have e : encStep ⟨o, 0, r⟩ n = ⟨o ++ [m / 4], 2, m % 4⟩ := by rw [hmm]; rfl
  rw [e] at h
  have hv : m / 4 < 64 := by omega
  have h1 := fdivK m 2 (by omega)
  have h2 := andK (m := m) (k := 2) (by omega) (by omega)
  have h3 : IntKind.i64.wrap (IntKind.i64.wrap (1 * 2 ^ min 2 64) - 1) = 3 := by decide
  have h1 : (m : Int).fdiv (2 ^ min 2 64) = ((m / 4 : Nat) : Int) := h1
  have h2 : IntKind.i64.wrap (((BitVec.ofInt IntKind.i64.bits (m : Int) &&& BitVec.ofInt IntKind.i64.bits 3).toNat : Nat) : Int) = ((m % 4 : Nat) : Int) := h2
  simp only [IntKind.bits] at h2
  have hp := handE w0 X hX ad had i (o.map signC) 8 6 2 m (m / 4) hv (by rw [List.length_map]; omega)
  have hok := fun B => okE X hX (.own X.length 0) (.inr rfl) (i + 1) B 8 6 191 2 ((m % 4 : Nat) : Int)
  simp only [List.map_append, List.map_cons, List.map_nil] at h
  generalize o.map signC ++ [signC (m / 4)] = B at h hp
  generalize o.map signC = A at h hp ⊢
  have h := h (i + 1)
  unfold blkE at h hp hok ⊢
  simp only at h hp hok ⊢
  have Hok := Lib.hid (hok B)
  clear hX had hn hr e hm hmm hv hlen hok
  refine en Tryz.func231 rfl Tryz.ntmps231 fun hO => ?_
  repeat' first | refine st ?_ | (refine ca ?_; first | apply hp) | (refine br ?_ ?_; all_goals (intro hb; try simp only [bnn] at hb)) | apply x_loop | apply x_lp | refine sd ?_ | apply pl_nil | (apply c_end; (· decide +kernel)) | refine bd ?_ ?_ | (refine cd ?_; first | apply hp) | fail
  ·repeat' first | exact pl_nil | refine pl_none ?_ | refine pl_skip2 (by decide +kernel) ?_
  (apply f_retX; iterate 5 (· simp only [go_sem, *, Tryz.results231]; try rfl))
  ·exact Hok.out
  ·simp
  ·exact h
 ·have e : encStep ⟨o, 2, r⟩ n = ⟨o ++ [m / 16], 4, m % 16⟩ := by rw [hmm]; rfl
  rw [e] at h
  have hv : m / 16 < 64 := by omega
  have h1 := fdivK m 4 (by omega)
  have h2 := andK (m := m) (k := 4) (by omega) (by omega)
  have h3 : IntKind.i64.wrap (IntKind.i64.wrap (1 * 2 ^ min 4 64) - 1) = 15 := by decide
  have h1 : (m : Int).fdiv (2 ^ min 4 64) = ((m / 16 : Nat) : Int) := h1
  have h2 : IntKind.i64.wrap (((BitVec.ofInt IntKind.i64.bits (m : Int) &&& BitVec.ofInt IntKind.i64.bits 15).toNat : Nat) : Int) = ((m % 16 : Nat) : Int) := h2
  simp only [IntKind.bits] at h2
  have hp := handE w0 X hX ad had i (o.map signC) 8 6 4 m (m / 16) hv (by rw [List.length_map]; omega)
  have hok := fun B => okE X hX (.own X.length 0) (.inr rfl) (i + 1) B 8 6 191 4 ((m % 16 : Nat) : Int)
  simp only [List.map_append, List.map_cons, List.map_nil] at h
  generalize o.map signC ++ [signC (m / 16)] = B at h hp
  generalize o.map signC = A at h hp ⊢
  have h := h (i + 1)
  unfold blkE at h hp hok ⊢
  simp only at h hp hok ⊢
  have Hok := Lib.hid (hok B)
  clear hX had hn hr e hm hmm hv hlen hok
  refine en Tryz.func231 rfl Tryz.ntmps231 fun hO => ?_
  repeat' first | refine st ?_ | (refine ca ?_; first | apply hp) | (refine br ?_ ?_; all_goals (intro hb; try simp only [bnn] at hb)) | apply x_loop | apply x_lp | refine sd ?_ | apply pl_nil | (apply c_end; (· decide +kernel)) | refine bd ?_ ?_ | (refine cd ?_; first | apply hp) | fail
  ·repeat' first | exact pl_nil | refine pl_none ?_ | refine pl_skip2 (by decide +kernel) ?_
  (apply f_retX; iterate 5 (· simp only [go_sem, *, Tryz.results231]; try rfl))
  ·exact Hok.out
  ·simp
  ·exact h
 ·have e : encStep ⟨o, 4, r⟩ n = ⟨o ++ [m / 64, m % 64], 0, 0⟩ := by rw [hmm]; rfl
  rw [e] at h
  have hv : m / 64 < 64 := by omega
  have hv2 : m % 64 < 64 := by omega
  have h1 := fdivK m 6 (by omega)
  have h2 := andK (m := m) (k := 6) (by omega) (by omega)
  have h3 : IntKind.i64.wrap (IntKind.i64.wrap (1 * 2 ^ min 6 64) - 1) = 63 := by decide
  have h4 : IntKind.i64.wrap (IntKind.i64.wrap (1 * 2 ^ min 0 64) - 1) = 0 := by decide
  have h1 : (m : Int).fdiv (2 ^ min 6 64) = ((m / 64 : Nat) : Int) := h1
  have h2 : IntKind.i64.wrap (((BitVec.ofInt IntKind.i64.bits (m : Int) &&& BitVec.ofInt IntKind.i64.bits 63).toNat : Nat) : Int) = ((m % 64 : Nat) : Int) := h2
  simp only [IntKind.bits] at h2
  obtain ⟨u, hu⟩ : ∃ u, u = m % 64 := ⟨_, rfl⟩
  have hu1 : (u : Int).fdiv (2 ^ min 0 64) = (u : Int) := by have := fdivK u 0 (by omega); simpa using this
  have hu2 := andK (m := u) (k := 0) (by omega) (by omega)
  have hu2 : IntKind.i64.wrap (((BitVec.ofInt IntKind.i64.bits (u : Int) &&& BitVec.ofInt IntKind.i64.bits 0).toNat : Nat) : Int) = 0 := by rw [Nat.pow_zero, Nat.mod_one] at hu2; exact hu2
  simp only [IntKind.bits] at hu2
  rw [← hu] at h2 h hv2
  have hp := handE w0 X hX ad had i (o.map signC) 8 6 6 m (m / 64) hv (by rw [List.length_map]; omega)
  have hp2 := handE w0 X hX (.own X.length 0) (.inr rfl) (i + 1) (o.map signC ++ [signC (m / 64)]) 8 6 0 (u : Int) u hv2 (by rw [List.length_append, List.length_map]; simp; omega)
  have hok := fun B => okE X hX (.own X.length 0) (.inr rfl) (i + 1 + 1) B 8 6 191 0 0
  simp only [List.map_append, List.map_cons, List.map_nil] at h
  rw [show List.map signC o ++ [signC (m / 64), signC u] = (List.map signC o ++ [signC (m / 64)]) ++ [signC u] by simp] at h
  generalize hB : o.map signC ++ [signC (m / 64)] = B at h hp hp2
  generalize hC : B ++ [signC u] = C at h hp2
  generalize o.map signC = A at h hp ⊢
  have h := h (i + 1 + 1)
  unfold blkE at h hp hp2 hok ⊢
  simp only at h hp hp2 hok ⊢
  have Hok := Lib.hid (hok C)
  clear hX had hn hr e hm hmm hv hv2 hlen hok hB hC hu
  refine en Tryz.func231 rfl Tryz.ntmps231 fun hO => ?_
  repeat' first | refine st ?_ | (refine ca ?_; first | apply hp | apply hp2) | (refine br ?_ ?_; all_goals (intro hb; try simp only [bnn] at hb)) | apply x_loop | apply x_lp | refine sd ?_ | apply pl_nil | (apply c_end; (· decide +kernel)) | refine bd ?_ ?_ | (refine cd ?_; first | apply hp | apply hp2) | fail
  ·repeat' first | exact pl_nil | refine pl_none ?_ | refine pl_skip2 (by decide +kernel) ?_
  ·repeat' first | exact pl_nil | refine pl_none ?_ | refine pl_skip2 (by decide +kernel) ?_
  (apply f_retX; iterate 5 (· simp only [go_sem, *, Tryz.results231]; try rfl))
  ·exact Hok.out
  ·simp
  ·exact h
theorem bldLen (w0 : World) (S : List Blk) (a : Nat) (ad v : AV) (l : Nat) (ha : S[a]? = some (.cells [ad, v] (some 90))) (hv : v = .snil ∧ l = 0 ∨ (∃ g i, v = .sown g i l)) (R : Rt) (h : R (.ret (.int .i64 l)) S) : ACall Tryz.prog w0 195 [.own a 0] S R := by
 rcases hv with ⟨rfl, rfl⟩ | ⟨g, i, rfl⟩
 ·have h : R (.ret (.int .i64 0)) S := h
  refine en Tryz.func195 rfl Tryz.ntmps195 fun hO => ?_
  repeat' first | refine st ?_ | (refine br ?_ ?_; all_goals (intro hb; try simp only [bnn] at hb)) | fail
  (apply f_ret; iterate 7 (· simp only [go_sem, *, Tryz.results195]; try rfl))
  exact h
 ·refine en Tryz.func195 rfl Tryz.ntmps195 fun hO => ?_
  repeat' first | refine st ?_ | (refine br ?_ ?_; all_goals (intro hb; try simp only [bnn] at hb)) | fail
  (apply f_ret; iterate 7 (· simp only [go_sem, *, Tryz.results195]; try rfl))
  exact h
theorem bsE (w0 : World) (X : List Blk) (ad : AV) (had : ad = .nilp ∨ ad = .own X.length 0) (i : Nat) (bs : List UInt8) (fr tz : Int) (hv : AV) (wt rs : Int) (hpos : 1 ≤ bs.length) (R : Rt)
  (h : R (.ret (.str bs)) (X ++ [Blk.cells [ad, .sown (X.length + 6) i bs.length] (some 90), Blk.cells [.int .i64 fr], Blk.cells [.int .i64 tz], Blk.cells [hv], Blk.cells [.int .i64 wt], Blk.cells [.int .i64 rs], .dead])) :
  ACall Tryz.prog w0 41 [.own X.length 0] (X ++ blkE X.length ad i bs fr tz hv wt rs) R := by
 refine bldString w0 _ X.length (X.length + 6) i ad bs ⟨by simp [blkE], by rw [List.getElem?_append_right (by omega)]; simp [blkE], had⟩ hpos R ?_
 unfold blkE
 rw [List.set_append_right _ _ (by omega)]
 simpa using h
def encSt (s : List UInt8) (k : Nat) : EncS := ((s.map UInt8.toNat).take k).foldl encStep ⟨[], 0, 0⟩
theorem encSt_succ {s : List UInt8} {k : Nat} {b : UInt8} (h : s[k]? = some b) : encSt s (k + 1) = encStep (encSt s k) b.toNat := by
 unfold encSt
 have : (s.map UInt8.toNat)[k]? = some b.toNat := by rw [List.getElem?_map, h]; rfl
 rw [List.take_add_one, this, List.foldl_append]; rfl
def InvE (q : EncS) : Prop := (q.wait = 0 ∧ q.rest = 0) ∨ (q.wait = 2 ∧ q.rest < 4) ∨ (q.wait = 4 ∧ q.rest < 16)
theorem invE_step {q : EncS} {v : Nat} (h : InvE q) (hv : v < 256) : InvE (encStep q v) ∧ (encStep q v).out.length ≤ q.out.length + 2 := by
 obtain ⟨o, w, r⟩ := q
 unfold InvE encStep at *
 simp only at *
 rcases h with ⟨rfl, rfl⟩ | ⟨rfl, h⟩ | ⟨rfl, h⟩ <;> simp <;> omega
theorem invE_st (s : List UInt8) : ∀ k, k ≤ s.length → InvE (encSt s k) ∧ (encSt s k).out.length ≤ 2 * k
 | 0, _ => by unfold encSt InvE; simp
 | k + 1, h => by
  obtain ⟨h1, h2⟩ := invE_st s k (by omega)
  have hx : s[k]? = some (s[k]'(by omega)) := List.getElem?_eq_getElem (by omega)
  obtain ⟨h3, h4⟩ := invE_step h1 (s[k]'(by omega)).toNat_lt
  rw [encSt_succ hx]
  exact ⟨h3, by omega⟩
theorem encSt_all (s : List UInt8) : (encEnd (encSt s s.length)).map signC = encB s := by
 unfold encSt encB
 rw [← enc_prog _ (toNat_lt s)]
 unfold encP
 rw [show s.length = (s.map UInt8.toNat).length by simp, List.take_length]
theorem encB_len (s : List UInt8) : (encB s).length = (8 * s.length + 5) / 6 := by unfold encB; simp [enc_len]
theorem pad_eq (n : Nat) : (n + 2) / 3 * 4 = (8 * n + 5) / 6 + padN ((8 * n + 5) / 6) := by unfold padN; omega
theorem bldEx : Go.Proofs.Builder.Extra Tryz.prog Go.Proofs.Tryz.lays105_ren where
 sizeBuilder := by kernel_rfl
 liesBuilder := by kernel_rfl
 t5 := Go.Proofs.Tryz.lays105.t5
 a5 := Go.Proofs.Tryz.lays105.a5
 z5 := Go.Proofs.Tryz.lays105.z5
 v5 := Go.Proofs.Tryz.lays105.v5
 infoByte := by kernel_rfl
 cellsByte := by kernel_rfl
 sizeByte := by kernel_rfl
 neB5 := by decide +kernel
theorem repeatS (w0 : World) (S : List Blk) (s : List UInt8) (n : Nat) (hn : n ≤ 9223372036854775807) (hl : s.length * n ≤ 140737488355328) (R : Rt) (h : R (.ret (.str (Lib.repeatL s n))) S) : ACall Tryz.prog w0 193 [.str s, .int .i64 n] S R := by
 refine ACall.lib (vs := [.string ⟨s.toArray⟩, .int .i64 n]) (v := .str (Lib.repeatL s n)) (c := .string ⟨(Lib.repeatL s n).toArray⟩) (Go.Proofs.enters_of Tryz.func193 (by kernel_rfl) rfl) rfl rfl ?_ h
 intro w hb
 refine (Go.Proofs.Any.strings_Repeat Go.Proofs.Tryz.lays105 bldEx ⟨s.toArray⟩ n w hn (by rw [show (⟨s.toArray⟩ : ByteArray).size = s.length from rfl]; exact hl)).mono ?_
 rintro e w' ⟨rfl, hw⟩
 exact ⟨rfl, hw⟩
theorem repeat_one (c : UInt8) (n : Nat) : Lib.repeatL [c] n = List.replicate n c := by
 induction n with
 | zero => rfl
 | succ n ih => rw [Lib.repeatL, ih, List.replicate_succ]; rfl
set_option maxHeartbeats 4000000 in
theorem oEncode0 (w0 : World) (S : List Blk) (R : Rt) (h : R (.ret (.tup [.str [], .int .i64 0])) S) : ACall Tryz.prog w0 117 [.str []] S R := by
 have hr := fun S' => regroupK w0 S' 8 6 191 S.length (by decide)
 have hbe := fun S' ha => bldEmpty w0 S' S.length ha
 have hbl := fun S' ha => bldLen w0 S' S.length .nilp .snil 0 ha (.inl ⟨rfl, rfl⟩)
 have hsz := fun S' (R : Rt) (h : R (.ret (.int .i64 0)) S') => oSize w0 S' 0 (by decide) R h
 have hre := fun S' (R : Rt) (h : R (.ret (.str [])) S') => repeatS w0 S' [61] 0 (by decide) (by decide) R h
 have wz : IntKind.i64.wrap 0 = 0 := by decide
 have h : R (.ret (.tup [.str [], .int .i64 0])) S := h
 refine en Tryz.func117 rfl Tryz.ntmps117 fun hO => ?_
 repeat' first | refine st ?_ | (refine ca ?_; first | apply hr | (apply hbe; (· simp only [go_sem, *]; try rfl)) | (apply hbl; (· simp only [go_sem, *]; try rfl)) | apply hsz | apply hre) | (refine br ?_ ?_; all_goals (intro hb; try simp only [bnn] at hb)) | apply x_loop | apply x_lp | fail
 (apply f_ret; iterate 7 (· simp only [go_sem, *, Tryz.results117]; try rfl))
 exact h
set_option maxHeartbeats 10000000 in
theorem oEncode (w0 : World) (S : List Blk) (s : List UInt8) (hs : s.length ≤ 4096) (R : Rt) (h : R (.ret (.tup [.str (encF s), .int .i64 0])) S) : ACall Tryz.prog w0 117 [.str s] S R := by
 by_cases hn : s = []
 ·subst hn
  exact oEncode0 w0 S R h
 have hpos : 0 < s.length := List.length_pos_iff.2 hn
 have hr := fun S' => regroupK w0 S' 8 6 191 S.length (by decide)
 have d0 : decide ((4096 : Int) < (s.length : Int)) = false := by simp; omega
 have H := Lib.hid h
 clear hn h
 refine en Tryz.func117 rfl Tryz.ntmps117 fun hO => ?_
 repeat' first | refine st ?_ | (refine ca ?_; first | apply hr) | (refine br ?_ ?_; all_goals (intro hb; try simp only [bnn] at hb)) | fail
 refine x_thawC (a := S.length) (j := 1) 5 1 (by (simp only [go_sem, *]; try rfl)) (by (simp only [go_sem, *]; try rfl)) (by decide) ?_
 simp only [go_sem, *]
 refine x_ind (fun (p : Nat × Nat × AV) env S' => p.1 ≤ s.length ∧ (p.2.2 = .nilp ∨ p.2.2 = .own S.length 0) ∧ env 1000000 = .dfr [] ∧ env 0 = .str s ∧ env 4 = .own S.length 0 ∧ env 5 = .fn (.func 231) [] [.own (S.length + 5) 0, .own (S.length + 1) 0, .own (S.length + 4) 0, .own (S.length + 2) 0, .own (S.length + 3) 0] ∧
  env 6 = .int .i64 ((encSt s p.1).wait : Nat) ∧ env 7 = .int .i64 ((encSt s p.1).rest : Nat) ∧ env 15 = .int .i64 s.length ∧ env 16 = .int .i64 (p.1 : Int) ∧
  S' = S ++ blkE S.length p.2.2 p.2.1 ((encSt s p.1).out.map signC) 8 6 (.fn (.func 191) [] [.own S.length 0]) ((encSt s p.1).wait : Nat) ((encSt s p.1).rest : Nat)) (fun p => s.length - p.1) (0, 0, .nilp) ?_ ?_
 ·exact ⟨Nat.zero_le _, .inl rfl, by (simp only [go_sem, *]; try rfl), by (simp only [go_sem, *]; try rfl), by (simp only [go_sem, *]; try rfl), by (simp only [go_sem, *]; try rfl), by (simp only [go_sem, *]; try rfl), by (simp only [go_sem, *]; try rfl), by (simp only [go_sem, *]; try rfl), by (simp only [go_sem, *]; try rfl), rfl⟩
 ·rintro ⟨k, i, ad⟩ env S' ⟨hk, had, e0, f0, f4, f5, f6, f7, f15, f16, rfl⟩ IH
  simp only at hk had f6 f7 f16
  have HI := Lib.hid IH
  obtain ⟨hi1, hi2⟩ := invE_st s k hk
  clear IH
  by_cases hlt : k < s.length
  ·obtain ⟨b, hx⟩ : ∃ b, s[k]? = some b := ⟨_, List.getElem?_eq_getElem hlt⟩
   have h1 : decide ((k : Int) < (s.length : Int)) = true := by simpa using hlt
   have hw : IntKind.i64.wrap ((k : Int) + 1) = (k : Int) + 1 := IntWalk.i64_in _ (by omega)
   have hwb : IntKind.i64.wrap (b.toNat : Int) = (b.toNat : Int) := IntWalk.i64_in _ (by have := b.toNat_lt; omega)
   have hg := regE w0 S hO ad had i (encSt s k) b.toNat b.toNat_lt hi1 (by omega)
   rw [← encSt_succ hx] at hg
   generalize hp1 : ((encSt s (k + 1)).wait : Int) = p1 at hg
   generalize hp2 : ((encSt s (k + 1)).rest : Int) = p2 at hg
   generalize hp3 : (encSt s (k + 1)).out.map signC = p3 at hg
   have Hp := Lib.hid (And.intro hp1 (And.intro hp2 hp3))
   clear hp1 hp2 hp3
   unfold blkE at hg
   simp only at hg ⊢
   generalize ((encSt s k).wait : Int) = q1 at *
   generalize ((encSt s k).rest : Int) = q2 at *
   generalize (encSt s k).out.map signC = q3 at *
   have Hlt := Lib.hid hlt
   have HO := Lib.hid hO
   clear hlt hk had hpos hs hi1 hi2 hO
   repeat' first | refine st ?_ | (refine ca ?_; first | apply hg) | (refine br ?_ ?_; all_goals (intro hb; try simp only [bnn] at hb)) | fail
   intro i'
   repeat' first | refine st ?_ | (refine br ?_ ?_; all_goals (intro hb; try simp only [bnn] at hb)) | fail
   obtain ⟨hp1, hp2, hp3⟩ := Hp.out
   subst hp1 hp2 hp3
   refine HI.out (k + 1, i', .own S.length 0) _ _ (by have := Hlt.out; simp only; omega) ⟨Hlt.out, .inr rfl, ?_, ?_, ?_, ?_, ?_, ?_, ?_, ?_, rfl⟩
   all_goals (simp only [go_sem, *]; try rfl)
  ·have hkl : k = s.length := by omega
   subst hkl
   have h1 : decide ((s.length : Int) < (s.length : Int)) = false := by simp
   have hea := encSt_all s
   have hel := encB_len s
   have hpe := pad_eq s.length
   rw [← hel] at hpe
   have hh := H.out
   unfold encF at hh
   have hsz := fun S' => oSize w0 S' s.length (by omega)
   rw [hpe] at hsz
   have hp4 : padN (encB s).length ≤ 3 := by unfold padN; omega
   have hre := fun S' => repeatS w0 S' [61] (padN (encB s).length) (by omega) (by simp; omega)
   simp only [repeat_one] at hre
   have hwp : IntKind.i64.wrap (((encB s).length + padN (encB s).length : Nat) - ((encB s).length : Int)) = ((padN (encB s).length : Nat) : Int) := by rw [IntWalk.i64_in _ (by omega)]; omega
   have hBl : 1 ≤ (encB s).length := by omega
   have hle : (encB s).length + (List.replicate (padN (encB s).length) (61 : UInt8)).length ≤ 9223372036854775807 := by simp; omega
   generalize encSt s s.length = q at *
   generalize padN (encB s).length = pd at *
   have hBl2 : (encB s).length ≤ 100000 := by omega
   clear hel hpe hs hpos hk HI H hp4
   obtain ⟨o, w, r⟩ := q
   simp only at f6 f7 hi2 ⊢
   unfold InvE at hi1
   simp only at hi1
   generalize encB s = B at *
   rcases hi1 with ⟨rfl, rfl⟩ | ⟨rfl, hr2⟩ | ⟨rfl, hr2⟩
   ·have e : o.map signC = B := by simpa [encEnd] using hea
    rw [e]
    have hst := bsE w0 S ad had i B 8 6 (.fn (.func 191) [] [.own S.length 0]) 0 0 hBl
    have hln := fun S' ha => bldLen w0 S' S.length ad (.sown (S.length + 6) i B.length) B.length ha (.inr ⟨_, _, rfl⟩)
    unfold blkE at hst ⊢
    have HO := Lib.hid hO
    clear hea had hO hBl hBl2 hi2 e
    repeat' first | refine st ?_ | (refine ca ?_; first | apply hst | apply hsz | (apply hln; (· simp only [go_sem, *]; try rfl)) | apply hre) | (refine br ?_ ?_; all_goals (intro hb; try simp only [bnn] at hb)) | fail
    (apply f_ret; iterate 7 (· simp only [go_sem, *, Tryz.results117]; try rfl))
    exact hh
   ·have e : o.map signC ++ [signC (r * 16)] = B := by rw [← hea]; simp [encEnd]
    obtain ⟨v, hv⟩ : ∃ v, v = r * 16 := ⟨_, rfl⟩
    rw [← hv] at e
    have hsh : IntKind.i64.wrap ((r : Int) * 2 ^ min 4 64) = (v : Int) := by rw [show (2 : Int) ^ min 4 64 = 16 by decide, IntWalk.i64_in _ (by omega)]; omega
    have hwd : IntKind.i64.wrap 4 = 4 := by decide
    have hc2 : ((2 : Nat) : Int) = 2 := rfl
    have hsg : ([65, 66, 67, 68, 69, 70, 71, 72, 73, 74, 75, 76, 77, 78, 79, 80, 81, 82, 83, 84, 85, 86, 87, 88, 89, 90, 97, 98, 99, 100, 101, 102, 103, 104, 105, 106, 107, 108, 109, 110, 111, 112, 113, 114, 115, 116, 117, 118, 119, 120, 121, 122, 48, 49, 50, 51, 52, 53, 54, 55, 56, 57, 43, 47] : List UInt8)[v]? = some (signC v) := by
     have : ∀ v, v < 64 → signsL[v]? = some (signC v) := by decide +kernel
     exact this v (by omega)
    have hol : o.length ≤ 1000000 := by have := congrArg List.length e; simp at this; omega
    generalize signC v = c at hsg e
    have hwb := wbE w0 S ad had i (o.map signC) 8 6 (.fn (.func 191) [] [.own S.length 0]) 2 (r : Int) c (by rw [List.length_map]; exact hol)
    rw [e] at hwb
    have hst := bsE w0 S (.own S.length 0) (.inr rfl) (i + 1) B 8 6 (.fn (.func 191) [] [.own S.length 0]) 2 (r : Int) hBl
    have hln := fun S' ha => bldLen w0 S' S.length (.own S.length 0) (.sown (S.length + 6) (i + 1) B.length) B.length ha (.inr ⟨_, _, rfl⟩)
    generalize o.map signC = A at *
    unfold blkE at hst hwb ⊢
    have HO := Lib.hid hO
    clear hea had hO hBl hBl2 hi2 e hol hr2 hv
    repeat' first | refine st ?_ | (refine ca ?_; first | apply hwb | apply hst | apply hsz | (apply hln; (· simp only [go_sem, *]; try rfl)) | apply hre) | (refine br ?_ ?_; all_goals (intro hb; try simp only [bnn] at hb)) | fail
    (apply f_ret; iterate 7 (· simp only [go_sem, *, Tryz.results117]; try rfl))
    exact hh
   ·have e : o.map signC ++ [signC (r * 4)] = B := by rw [← hea]; simp [encEnd]
    obtain ⟨v, hv⟩ : ∃ v, v = r * 4 := ⟨_, rfl⟩
    rw [← hv] at e
    have hsh : IntKind.i64.wrap ((r : Int) * 2 ^ min 2 64) = (v : Int) := by rw [show (2 : Int) ^ min 2 64 = 4 by decide, IntWalk.i64_in _ (by omega)]; omega
    have hwd : IntKind.i64.wrap 2 = 2 := by decide
    have hc2 : ((4 : Nat) : Int) = 4 := rfl
    have hsg : ([65, 66, 67, 68, 69, 70, 71, 72, 73, 74, 75, 76, 77, 78, 79, 80, 81, 82, 83, 84, 85, 86, 87, 88, 89, 90, 97, 98, 99, 100, 101, 102, 103, 104, 105, 106, 107, 108, 109, 110, 111, 112, 113, 114, 115, 116, 117, 118, 119, 120, 121, 122, 48, 49, 50, 51, 52, 53, 54, 55, 56, 57, 43, 47] : List UInt8)[v]? = some (signC v) := by
     have : ∀ v, v < 64 → signsL[v]? = some (signC v) := by decide +kernel
     exact this v (by omega)
    have hol : o.length ≤ 1000000 := by have := congrArg List.length e; simp at this; omega
    generalize signC v = c at hsg e
    have hwb := wbE w0 S ad had i (o.map signC) 8 6 (.fn (.func 191) [] [.own S.length 0]) 4 (r : Int) c (by rw [List.length_map]; exact hol)
    rw [e] at hwb
    have hst := bsE w0 S (.own S.length 0) (.inr rfl) (i + 1) B 8 6 (.fn (.func 191) [] [.own S.length 0]) 4 (r : Int) hBl
    have hln := fun S' ha => bldLen w0 S' S.length (.own S.length 0) (.sown (S.length + 6) (i + 1) B.length) B.length ha (.inr ⟨_, _, rfl⟩)
    generalize o.map signC = A at *
    unfold blkE at hst hwb ⊢
    have HO := Lib.hid hO
    clear hea had hO hBl hBl2 hi2 e hol hr2 hv
    repeat' first | refine st ?_ | (refine ca ?_; first | apply hwb | apply hst | apply hsz | (apply hln; (· simp only [go_sem, *]; try rfl)) | apply hre) | (refine br ?_ ?_; all_goals (intro hb; try simp only [bnn] at hb)) | fail
    (apply f_ret; iterate 7 (· simp only [go_sem, *, Tryz.results117]; try rfl))
    exact hh
theorem ofNat_toNat {v : Nat} (h : v < 256) : (UInt8.ofNat v).toNat = v := by simp; omega
set_option maxHeartbeats 1000000 in
theorem handD (w0 : World) (X : List Blk) (hX : OuterOk X) (ad : AV) (had : ad = .nilp ∨ ad = .own X.length 0) (i : Nat) (bs : List UInt8) (fr tz : Int) (wt rs : Int) (v : Nat) (hv : v < 256) (hlen : bs.length ≤ 1000000) (R : Rt)
  (h : R (.ret (.tup [])) (X ++ blkE X.length (.own X.length 0) (i + 1) (bs ++ [UInt8.ofNat v]) fr tz (.fn (.func 252) [] [.own X.length 0]) wt rs)) :
  ACall Tryz.prog w0 252 [.int .i64 v, .own X.length 0] (X ++ blkE X.length ad i bs fr tz (.fn (.func 252) [] [.own X.length 0]) wt rs) R := by
 have hsg : IntKind.u8.wrap (v : Int) = (((UInt8.ofNat v).toNat : Nat) : Int) := by rw [ofNat_toNat hv]; exact IntWalk.u8_in _ (by omega)
 generalize UInt8.ofNat v = c at h hsg
 have hw := wbE w0 X ad had i bs fr tz (.fn (.func 252) [] [.own X.length 0]) wt rs c hlen
 have hok := okE X hX (.own X.length 0) (.inr rfl) (i + 1) (bs ++ [c]) fr tz 252 wt rs
 generalize hS : X ++ blkE X.length (.own X.length 0) (i + 1) (bs ++ [c]) fr tz (.fn (.func 252) [] [.own X.length 0]) wt rs = S2 at *
 have hl2 : S2.length = X.length + 7 := by rw [← hS]; simp [blkE]
 have hl1 : (X ++ blkE X.length ad i bs fr tz (.fn (.func 252) [] [.own X.length 0]) wt rs).length = X.length + 7 := by simp [blkE]
 have hgt : (X ++ blkE X.length ad i bs fr tz (.fn (.func 252) [] [.own X.length 0]) wt rs)[X.length]? = some (Blk.cells [ad, .sown (X.length + 6) i bs.length] (some 90)) := by simp [blkE]
 generalize X ++ blkE X.length ad i bs fr tz (.fn (.func 252) [] [.own X.length 0]) wt rs = S1 at *
 clear hX had hlen hS hv
 have Hok := Lib.hid hok
 clear hok
 refine en Tryz.func252 rfl Tryz.ntmps252 fun hO => ?_
 repeat' first | refine st ?_ | (refine ca ?_; first | apply hw) | (refine br ?_ ?_; all_goals (intro hb; try simp only [bnn] at hb)) | fail
 (apply f_endX; iterate 5 (· simp only [go_sem, *, Tryz.results252]; try rfl))
 ·exact Hok.out
 ·rw [hl1, hl2]
 ·exact h
set_option maxHeartbeats 4000000 in
theorem regD (w0 : World) (X : List Blk) (hX : OuterOk X) (ad : AV) (had : ad = .nilp ∨ ad = .own X.length 0) (i : Nat) (q : EncS) (n : Nat) (hn : n < 64) (hq : InvD q) (hlen : q.out.length ≤ 100000) (R : Rt)
  (h : ∀ ad' i', (ad' = .nilp ∨ ad' = .own X.length 0) → R (.ret (.tup [.int .i64 ((decStep q n).wait : Nat), .int .i64 ((decStep q n).rest : Nat)])) (X ++ blkE X.length ad' i' ((decStep q n).out.map UInt8.ofNat) 6 8 (.fn (.func 252) [] [.own X.length 0]) ((decStep q n).wait : Nat) ((decStep q n).rest : Nat))) :
  ACall Tryz.prog w0 231 [.int .i64 n, .own (X.length + 5) 0, .own (X.length + 1) 0, .own (X.length + 4) 0, .own (X.length + 2) 0, .own (X.length + 3) 0] (X ++ blkE X.length ad i (q.out.map UInt8.ofNat) 6 8 (.fn (.func 252) [] [.own X.length 0]) (q.wait : Nat) (q.rest : Nat)) R := by
 obtain ⟨o, w, r⟩ := q
 unfold InvD at hq
 have wz0 : IntKind.i64.wrap 0 = 0 := by decide
 have w2 : IntKind.i64.wrap 2 = 2 := by decide
 have w4 : IntKind.i64.wrap 4 = 4 := by decide
 have w6 : IntKind.i64.wrap 6 = 6 := by decide
 have w8 : IntKind.i64.wrap 8 = 8 := by decide
 have w10 : IntKind.i64.wrap 10 = 10 := by decide
 have w12 : IntKind.i64.wrap 12 = 12 := by decide
 have c0 : ((0 : Nat) : Int) = 0 := rfl
 have c2 : ((2 : Nat) : Int) = 2 := rfl
 have c4 : ((4 : Nat) : Int) = 4 := rfl
 have c6 : ((6 : Nat) : Int) = 6 := rfl
 simp only at hq hlen
 obtain ⟨m, hmm⟩ : ∃ m, m = r * 64 + n := ⟨_, rfl⟩
 have hor := orK (a := r) (b := n) (k := 6) (by omega) (by omega) (by omega)
 have hmp : r * 2 ^ 6 + n = m := by omega
 rw [hmp] at hor
 simp only [IntKind.bits] at hor
 clear hmp
 have hm : m < 64 * 2 ^ w := by rcases hq with ⟨rfl, hr⟩ | ⟨rfl, hr⟩ | ⟨rfl, hr⟩ | ⟨rfl, hr⟩ <;> omega
 rcases hq with ⟨rfl, hr⟩ | ⟨rfl, hr⟩ | ⟨rfl, hr⟩ | ⟨rfl, hr⟩
 ·have e : decStep ⟨o, 0, r⟩ n = ⟨o, 6, m⟩ := by rw [hmm]; rfl
  rw [e] at h
  have hok := fun B => okE X hX ad had i B 6 8 252 6 (m : Int)
  have h := h ad i had
  simp only at h ⊢
  generalize o.map UInt8.ofNat = A at h ⊢
  unfold blkE at h hok ⊢
  have Hok := Lib.hid (hok A)
  clear hX had hn hr e hm hmm hlen hok
  refine en Tryz.func231 rfl Tryz.ntmps231 fun hO => ?_
  repeat' first | refine st ?_ | (refine br ?_ ?_; all_goals (intro hb; try simp only [bnn] at hb)) | apply x_loop | apply x_lp | refine sd ?_ | apply pl_nil | (apply c_end; (· decide +kernel)) | refine bd ?_ ?_ | fail
  (apply f_retX; iterate 5 (· simp only [go_sem, *, Tryz.results231]; try rfl))
  ·exact Hok.out
  ·simp
  ·exact h
 ·have e : decStep ⟨o, 6, r⟩ n = ⟨o ++ [m / 16], 4, m % 16⟩ := by rw [hmm]; rfl
  rw [e] at h
  have hv : m / 16 < 256 := by omega
  have h3 : IntKind.i64.wrap (IntKind.i64.wrap (1 * 2 ^ min 4 64) - 1) = 15 := by decide
  have h1 : (m : Int).fdiv (2 ^ min 4 64) = ((m / 16 : Nat) : Int) := fdivK m 4 (by omega)
  have h2 : IntKind.i64.wrap (((BitVec.ofInt IntKind.i64.bits (m : Int) &&& BitVec.ofInt IntKind.i64.bits 15).toNat : Nat) : Int) = ((m % 16 : Nat) : Int) := andK (m := m) (k := 4) (by omega) (by omega)
  simp only [IntKind.bits] at h2
  have hp := handD w0 X hX ad had i (o.map UInt8.ofNat) 6 8 4 m (m / 16) hv (by rw [List.length_map]; omega)
  have hok := fun B => okE X hX (.own X.length 0) (.inr rfl) (i + 1) B 6 8 252 4 ((m % 16 : Nat) : Int)
  simp only [List.map_append, List.map_cons, List.map_nil] at h
  generalize o.map UInt8.ofNat ++ [UInt8.ofNat (m / 16)] = B at h hp
  generalize o.map UInt8.ofNat = A at h hp ⊢
  have h := h (.own X.length 0) (i + 1) (.inr rfl)
  unfold blkE at h hp hok ⊢
  simp only at h hp hok ⊢
  have Hok := Lib.hid (hok B)
  clear hX had hn hr e hm hmm hv hlen hok
  refine en Tryz.func231 rfl Tryz.ntmps231 fun hO => ?_
  repeat' first | refine st ?_ | (refine ca ?_; first | apply hp) | (refine br ?_ ?_; all_goals (intro hb; try simp only [bnn] at hb)) | apply x_loop | apply x_lp | refine sd ?_ | apply pl_nil | (apply c_end; (· decide +kernel)) | refine bd ?_ ?_ | (refine cd ?_; first | apply hp) | fail
  ·repeat' first | exact pl_nil | refine pl_none ?_ | refine pl_skip2 (by decide +kernel) ?_
  (apply f_retX; iterate 5 (· simp only [go_sem, *, Tryz.results231]; try rfl))
  ·exact Hok.out
  ·simp
  ·exact h
 ·have e : decStep ⟨o, 4, r⟩ n = ⟨o ++ [m / 4], 2, m % 4⟩ := by rw [hmm]; rfl
  rw [e] at h
  have hv : m / 4 < 256 := by omega
  have h3 : IntKind.i64.wrap (IntKind.i64.wrap (1 * 2 ^ min 2 64) - 1) = 3 := by decide
  have h1 : (m : Int).fdiv (2 ^ min 2 64) = ((m / 4 : Nat) : Int) := fdivK m 2 (by omega)
  have h2 : IntKind.i64.wrap (((BitVec.ofInt IntKind.i64.bits (m : Int) &&& BitVec.ofInt IntKind.i64.bits 3).toNat : Nat) : Int) = ((m % 4 : Nat) : Int) := andK (m := m) (k := 2) (by omega) (by omega)
  simp only [IntKind.bits] at h2
  have hp := handD w0 X hX ad had i (o.map UInt8.ofNat) 6 8 2 m (m / 4) hv (by rw [List.length_map]; omega)
  have hok := fun B => okE X hX (.own X.length 0) (.inr rfl) (i + 1) B 6 8 252 2 ((m % 4 : Nat) : Int)
  simp only [List.map_append, List.map_cons, List.map_nil] at h
  generalize o.map UInt8.ofNat ++ [UInt8.ofNat (m / 4)] = B at h hp
  generalize o.map UInt8.ofNat = A at h hp ⊢
  have h := h (.own X.length 0) (i + 1) (.inr rfl)
  unfold blkE at h hp hok ⊢
  simp only at h hp hok ⊢
  have Hok := Lib.hid (hok B)
  clear hX had hn hr e hm hmm hv hlen hok
  refine en Tryz.func231 rfl Tryz.ntmps231 fun hO => ?_
  repeat' first | refine st ?_ | (refine ca ?_; first | apply hp) | (refine br ?_ ?_; all_goals (intro hb; try simp only [bnn] at hb)) | apply x_loop | apply x_lp | refine sd ?_ | apply pl_nil | (apply c_end; (· decide +kernel)) | refine bd ?_ ?_ | (refine cd ?_; first | apply hp) | fail
  ·repeat' first | exact pl_nil | refine pl_none ?_ | refine pl_skip2 (by decide +kernel) ?_
  (apply f_retX; iterate 5 (· simp only [go_sem, *, Tryz.results231]; try rfl))
  ·exact Hok.out
  ·simp
  ·exact h
 ·have e : decStep ⟨o, 2, r⟩ n = ⟨o ++ [m], 0, 0⟩ := by rw [hmm]; rfl
  rw [e] at h
  have hv : m < 256 := by omega
  have h3 : IntKind.i64.wrap (IntKind.i64.wrap (1 * 2 ^ min 0 64) - 1) = 0 := by decide
  have h1 : (m : Int).fdiv (2 ^ min 0 64) = (m : Int) := by have := fdivK m 0 (by omega); simpa using this
  have h2 := andK (m := m) (k := 0) (by omega) (by omega)
  have h2 : IntKind.i64.wrap (((BitVec.ofInt IntKind.i64.bits (m : Int) &&& BitVec.ofInt IntKind.i64.bits 0).toNat : Nat) : Int) = 0 := by rw [Nat.pow_zero, Nat.mod_one] at h2; exact h2
  simp only [IntKind.bits] at h2
  have hp := handD w0 X hX ad had i (o.map UInt8.ofNat) 6 8 0 m m hv (by rw [List.length_map]; omega)
  have hok := fun B => okE X hX (.own X.length 0) (.inr rfl) (i + 1) B 6 8 252 0 0
  simp only [List.map_append, List.map_cons, List.map_nil] at h
  generalize o.map UInt8.ofNat ++ [UInt8.ofNat m] = B at h hp
  generalize o.map UInt8.ofNat = A at h hp ⊢
  have h := h (.own X.length 0) (i + 1) (.inr rfl)
  unfold blkE at h hp hok ⊢
  simp only at h hp hok ⊢
  have Hok := Lib.hid (hok B)
  clear hX had hn hr e hm hmm hv hlen hok
  refine en Tryz.func231 rfl Tryz.ntmps231 fun hO => ?_
  repeat' first | refine st ?_ | (refine ca ?_; first | apply hp) | (refine br ?_ ?_; all_goals (intro hb; try simp only [bnn] at hb)) | apply x_loop | apply x_lp | refine sd ?_ | apply pl_nil | (apply c_end; (· decide +kernel)) | refine bd ?_ ?_ | (refine cd ?_; first | apply hp) | fail
  ·repeat' first | exact pl_nil | refine pl_none ?_ | refine pl_skip2 (by decide +kernel) ?_
  (apply f_retX; iterate 5 (· simp only [go_sem, *, Tryz.results231]; try rfl))
  ·exact Hok.out
  ·simp
  ·exact h
theorem trimRight (w0 : World) (S : List Blk) (s : List UInt8) (hs : s.length ≤ 1000000000) (R : Rt) (h : R (.ret (.str (trimC s))) S) : ACall Tryz.prog w0 251 [.str s, .str [61]] S R := by
 refine ACall.lib (vs := [.string ⟨s.toArray⟩, .string ⟨#[61]⟩]) (v := .str (trimC s)) (c := .string ⟨(trimC s).toArray⟩) (Go.Proofs.enters_of Tryz.func251 (by kernel_rfl) rfl) rfl rfl ?_ h
 intro w hb
 refine (Go.Proofs.Any.strings_TrimRight_one Go.Proofs.Tryz.lays162 ⟨s.toArray⟩ 61 (by decide) w ?_).mono ?_
 ·show s.toArray.size ≤ _
  simp; omega
 ·rintro e w' ⟨rfl, rfl⟩
  refine ⟨?_, RowKit.Below.refl _ _⟩
  rfl
def valE (v : Nat) : AV × AV := (.int .u8 ((signC v).toNat : Int), .int .i64 (v : Int))
def valsM (k : Nat) : List (AV × AV) := (List.range k).map valE
theorem valsM_succ (k : Nat) : valsM (k + 1) = valsM k ++ [valE k] := by
 unfold valsM
 rw [List.range_succ, List.map_append]
 rfl
theorem sign_inj : ∀ v, v < 64 → ∀ u, u < v → (((signC v).toNat : Int) == ((signC u).toNat : Int)) = false := by decide +kernel
theorem keq_val {c : UInt8} {u : Nat} : keq (.int .u8 (c.toNat : Int)) (valE u).1 = ((c.toNat : Int) == ((signC u).toNat : Int)) := rfl
theorem vals_new {k : Nat} (hk : k < 64) : (valsM k).any (fun e => keq (.int .u8 ((signC k).toNat : Int)) e.1) = false := by
 rw [List.any_eq_false]
 intro e he
 obtain ⟨u, hu, rfl⟩ := List.mem_map.1 he
 rw [keq_val, sign_inj k hk u (List.mem_range.1 hu)]
 simp
theorem vals_key (k : Nat) : ((valsM k).all fun e => keyA Tryz.prog 5 e.1) = true := by
 rw [List.all_eq_true]
 intro e he
 obtain ⟨u, hu, rfl⟩ := List.mem_map.1 he
 unfold valE
 simp only [keyA, go_sem]
theorem vals_up {k : Nat} (hk : k < 64) : upsertA (.int .u8 ((signC k).toNat : Int)) (.int .i64 (k : Int)) (valsM k) = valsM (k + 1) := by
 unfold upsertA
 rw [vals_new hk, valsM_succ]
 rfl
theorem mapUp (S : List Blk) {k : Nat} (hk : k < 64) : mapUpdateA Tryz.prog (S ++ [Blk.mp false (valsM k)]) 204 (.mown S.length) (.int .u8 ((signC k).toNat : Int)) (.int .i64 (k : Int)) = some (S ++ [Blk.mp false (valsM (k + 1))]) := by
 have hg : (S ++ [Blk.mp false (valsM k)])[S.length]? = some (Blk.mp false (valsM k)) := by simp
 have hkk : keyA Tryz.prog 5 (.int .u8 ((signC k).toNat : Int)) = true := by simp only [keyA, go_sem]
 unfold mapUpdateA
 rw [show Tryz.prog.underlying 204 = some (.map 5 3) by simp only [go_sem]]
 simp only [hg, hkk, vals_key, vals_up hk, Bool.and_self, if_true]
 simp
theorem conv_vals (S : List Blk) (fr : Nat → Bool) (d k : Nat) : ((valsM k).map fun e => (e.1, conv S fr d e.2)) = valsM k := by
 refine (List.map_congr_left fun e he => ?_).trans (List.map_id _)
 obtain ⟨u, hu, rfl⟩ := List.mem_map.1 he
 unfold valE
 cases d <;> rfl
theorem lt_vals (n k : Nat) : (AV.mval (valsM k)).lt n = true := by
 have : ∀ l : List Nat, ltP n (l.map valE) = true := by
  intro l
  induction l with
  | nil => rfl
  | cons a l ih => simp only [List.map_cons, valE, ltP, AV.lt, Bool.true_and]; exact ih
 exact this _
theorem conv_map (S : List Blk) (k : Nat) : conv (S ++ [Blk.mp false (valsM k)]) (fun a => decide (S.length ≤ a)) 4 (.mown S.length) = .mval (valsM k) := by
 have hg : (S ++ [Blk.mp false (valsM k)])[S.length]? = some (Blk.mp false (valsM k)) := by simp
 have hd : decide (S.length ≤ S.length) = true := by simp
 rw [conv]
 simp only [AV.plain, hd, hg, Bool.false_eq_true, if_false, if_true]
 rw [conv_vals]
theorem step_up {P : Program} {S S' : List Blk} {ρ : Operand → AV} {t : TypeId} {m k v : Operand} (h : mapUpdateA P S t (ρ m) (ρ k) (ρ v) = some S') : stepF P S ρ (.mapUpdate t m k v) = some (.tup [], S') := by
 simp only [stepF, h]
theorem find_val (c : UInt8) : (valsM 64).find? (fun e => keq (.int .u8 (c.toNat : Int)) e.1) = (valC c).map valE := by
 have : ∀ n : Nat, n < 256 → ((List.range 64).find? (fun u => ((UInt8.ofNat n).toNat : Int) == ((signC u).toNat : Int))) = valC (UInt8.ofNat n) := by decide +kernel
 have h := this c.toNat c.toNat_lt
 rw [UInt8.ofNat_toNat] at h
 unfold valsM
 rw [List.find?_map, ← h]
 rfl
set_option maxHeartbeats 4000000 in
theorem oValues (w0 : World) (S : List Blk) (R : Rt) (h : R (.ret (.mval (valsM 64))) S) : ACall Tryz.prog w0 253 [] S R := by
 refine en Tryz.func253 rfl Tryz.ntmps253 fun hO => ?_
 repeat' first | refine st ?_ | (refine br ?_ ?_; all_goals (intro hb; try simp only [bnn] at hb)) | fail
 refine x_ind (fun (k : Nat) env S' => k ≤ 64 ∧ env 1000000 = .dfr [] ∧ env 1 = .mown S.length ∧ env 4 = .int .i64 (k : Int) ∧ S' = S ++ [Blk.mp false (valsM k)]) (fun k => 64 - k) 0 ?_ ?_
 ·exact ⟨by omega, by (simp only [go_sem, *]; try rfl), by (simp only [go_sem, *]; try rfl), by (simp only [go_sem, *]; try rfl), rfl⟩
 ·rintro k env S' ⟨hk, e0, f1, f4, rfl⟩ IH
  have HI := Lib.hid IH
  clear IH
  by_cases hlt : k < 64
  ·have h1 : decide ((k : Int) < 64) = true := by simp; omega
   have hw : IntKind.i64.wrap ((k : Int) + 1) = (k : Int) + 1 := IntWalk.i64_in _ (by omega)
   have hsg : ([65, 66, 67, 68, 69, 70, 71, 72, 73, 74, 75, 76, 77, 78, 79, 80, 81, 82, 83, 84, 85, 86, 87, 88, 89, 90, 97, 98, 99, 100, 101, 102, 103, 104, 105, 106, 107, 108, 109, 110, 111, 112, 113, 114, 115, 116, 117, 118, 119, 120, 121, 122, 48, 49, 50, 51, 52, 53, 54, 55, 56, 57, 43, 47] : List UInt8)[k]? = some (signC k) := by
    have : ∀ v, v < 64 → signsL[v]? = some (signC v) := by decide +kernel
    exact this k hlt
   have hup := mapUp S hlt
   have Hlt := Lib.hid hlt
   clear hlt hk
   generalize hc : signC k = c at hsg hup
   generalize hM1 : valsM k = M at hup ⊢
   generalize hM : valsM (k + 1) = M1 at hup
   have HM := Lib.hid hM
   clear hM hM1 hc
   have Hup := Lib.hid hup
   clear hup
   repeat' first | refine st ?_ | (refine br ?_ ?_; all_goals (intro hb; try simp only [bnn] at hb)) | fail
   refine x_step (v := .tup []) (S' := S ++ [Blk.mp false M1]) (by (simp only [go_sem, *]; try rfl)) (step_up Hup.out) (by (simp only [go_sem, *]; try rfl)) ?_
   simp only [putA]
   repeat' first | refine st ?_ | (refine br ?_ ?_; all_goals (intro hb; try simp only [bnn] at hb)) | fail
   rw [← HM.out]
   refine HI.out (k + 1) _ _ (by have := Hlt.out; omega) ⟨Hlt.out, ?_, ?_, ?_, rfl⟩
   all_goals (simp only [go_sem, *]; try rfl)
  ·have hk64 : k = 64 := by omega
   subst hk64
   have h1 : decide ((64 : Int) < 64) = false := by decide
   have hc64 : ((64 : Nat) : Int) = 64 := rfl
   have hcv := conv_map S 64
   have hlt4 := lt_vals S.length 64
   have hok := okOuter_append S [Blk.mp false (valsM 64)]
   have htk : (S ++ [Blk.mp false (valsM 64)]).take S.length = S := List.take_left
   generalize valsM 64 = M at h hcv hlt4 hok htk ⊢
   clear hlt hk HI
   repeat' first | refine st ?_ | (refine br ?_ ?_; all_goals (intro hb; try simp only [bnn] at hb)) | fail
   exact f_ret (vs := [.mown S.length]) (by (simp only [go_sem, *]; try rfl)) (by (simp only [go_sem, *]; try rfl)) (by (simp only [go_sem, *, Tryz.results253]; try rfl)) hok hcv hlt4 htk h
theorem step_lk {P : Program} {S : List Blk} {ρ : Operand → AV} {t : TypeId} {x k : Operand} {ok : Bool} {y : AV} (h : lookupA P S t (ρ x) (ρ k) ok = some y) : stepF P S ρ (.lookup t x k ok) = some (y, S) := by
 simp [stepF, pureF, h]
def lkW : Option Nat → AV
 | some v => .tup [.int .i64 v, .bool true]
 | none => .tup [.int .i64 0, .bool false]
theorem lkV (S : List Blk) (c : UInt8) : lookupA Tryz.prog S 204 (.mval (valsM 64)) (.int .u8 (c.toNat : Int)) true = some (lkW (valC c)) := by
 have hkk : keyA Tryz.prog 5 (.int .u8 (c.toNat : Int)) = true := by simp only [keyA, go_sem]
 have hz : zeroV Tryz.prog 3 = some (.int .i64 0) := by simp only [go_sem]
 unfold lookupA
 rw [show Tryz.prog.underlying 204 = some (.map 5 3) by simp only [go_sem]]
 simp only [entsA]
 unfold findA
 simp only [hkk, vals_key, Bool.and_self, if_true, hz, find_val]
 cases valC c <;> rfl
def stD (V : List Nat) : EncS := V.foldl decStep ⟨[], 0, 0⟩
theorem stD_snoc (V : List Nat) (v : Nat) : stD (V ++ [v]) = decStep (stD V) v := by unfold stD; rw [List.foldl_append]; rfl
theorem stD_decV (V : List Nat) (h : ∀ v ∈ V, v < 64) : stD V = decV V := by
 unfold stD
 rw [dec_fold V [] h]
 rfl
theorem vals_snoc (l : List UInt8) (c : UInt8) : valsC (l ++ [c]) = (valsC l).bind fun V => (valC c).map fun v => V ++ [v] := by
 induction l with
 | nil => cases h : valC c <;> simp [valsC, h]
 | cons b l ih =>
  simp only [List.cons_append, valsC]
  cases hb : valC b with
  | none => rfl
  | some v => rw [ih]; cases h1 : valsC l <;> cases h2 : valC c <;> rfl
theorem vals_bad : ∀ {l : List UInt8} {k : Nat} {c : UInt8}, l[k]? = some c → valC c = none → valsC l = none
 | [], k, c, h, _ => by simp at h
 | b :: l, 0, c, h, hc => by
  simp at h; subst h
  simp [valsC, hc]
 | b :: l, k + 1, c, h, hc => by
  have := vals_bad (l := l) (by simpa using h) hc
  simp only [valsC, this]
  cases valC b <;> rfl
theorem stD_inv : ∀ (n : Nat) (V : List Nat), V.length = n → (∀ v ∈ V, v < 64) → InvD (stD V) ∧ (stD V).out.length ≤ V.length
 | 0, V, hn, _ => by
  have : V = [] := List.eq_nil_of_length_eq_zero hn
  subst this
  unfold stD InvD; simp
 | n + 1, V, hn, h => by
  obtain ⟨W, v, rfl⟩ : ∃ W v, V = W ++ [v] := by
   have hne : V ≠ [] := by rintro rfl; simp at hn
   exact ⟨V.dropLast, V.getLast hne, (List.dropLast_concat_getLast hne).symm⟩
  obtain ⟨h1, h2⟩ := stD_inv n W (by simpa using hn) (fun x hx => h x (by simp [hx]))
  obtain ⟨h3, h4⟩ := inv_step h1 (h v (by simp))
  rw [stD_snoc]
  refine ⟨h3, ?_⟩
  rw [List.length_append]
  simp only [List.length_cons, List.length_nil]
  omega
theorem trim_len (s : List UInt8) : (trimC s).length ≤ s.length := by
 obtain ⟨k, hk⟩ := trim_split s
 have := congrArg List.length hk
 simp at this
 omega
def decW : Option (List UInt8) → AV
 | some c => .tup [.str c, .int .i64 0]
 | none => .tup [.str [], .int .i64 6]
theorem dec_outlen : ∀ V : List Nat, (decV V).out.length = V.length * 3 / 4
 | [] => by simp [decV]
 | [_] => by simp [decV]
 | [_, _] => by simp [decV]
 | [_, _, _] => by simp [decV]
 | a :: b :: c :: d :: r => by
  have ih := dec_outlen r
  simp only [decV, List.length_cons]
  omega
set_option maxHeartbeats 10000000 in
theorem oDecode (w0 : World) (S : List Blk) (s : List UInt8) (hs : s.length ≤ 8192) (R : Rt) (h : R (.ret (decW (decP s))) S) : ACall Tryz.prog w0 209 [.str s] S R := by
 have hr := fun S' => regroupK w0 S' 6 8 252 S.length (by decide)
 have d0 : decide ((8192 : Int) < (s.length : Int)) = false := by simp; omega
 have htr := fun S' => trimRight w0 S' s (by omega)
 have hva := oValues w0
 have htl := trim_len s
 have hmm : (s.length : Int).tmod 4 = ((s.length % 4 : Nat) : Int) := tmK s.length 4
 have hwd : IntKind.i64.wrap ((s.length : Int) - ((trimC s).length : Int)) = ((s.length - (trimC s).length : Nat) : Int) := by rw [IntWalk.i64_in _ (by omega)]; omega
 have hlk := fun S' c => lkV S' c
 unfold decP at h
 have bad : ((trimC s).length ≠ s.length ∧ (s.length % 4 ≠ 0 ∨ 2 < s.length - (trimC s).length)) → R (.ret (.tup [.str [], .int .i64 6])) S := fun e => by rw [if_pos e] at h; exact h
 have good : ¬ ((trimC s).length ≠ s.length ∧ (s.length % 4 ≠ 0 ∨ 2 < s.length - (trimC s).length)) → R (.ret (decW (match valsC (trimC s) with | none => none | some V => if (decV V).wait = 6 ∨ (decV V).rest ≠ 0 then none else some ((decV V).out.map UInt8.ofNat)))) S := fun e => by rw [if_neg e] at h; exact h
 clear h
 generalize trimC s = t at *
 generalize valsM 64 = M at hva hlk
 have Bad := Lib.hid bad
 have Good := Lib.hid good
 have Hlk := Lib.hid hlk
 have Hva := Lib.hid hva
 have Hr := Lib.hid hr
 clear bad good hlk hva hr
 by_cases hA : (t.length ≠ s.length ∧ (s.length % 4 ≠ 0 ∨ 2 < s.length - t.length))
 ·have hh := Bad.out hA
  have b1 : ((t.length : Int) != (s.length : Int)) = true := by rw [bne_iff_ne]; omega
  by_cases hB : s.length % 4 = 0
  ·have b2 : (((s.length % 4 : Nat) : Int) != 0) = false := by rw [hB]; rfl
   have b3 : decide ((2 : Int) < ((s.length - t.length : Nat) : Int)) = true := by simp; omega
   clear hA hB hs htl
   refine en Tryz.func209 rfl Tryz.ntmps209 fun hO => ?_
   repeat' first | refine st ?_ | (refine ca ?_; first | apply htr) | (refine br ?_ ?_; all_goals (intro hb; try simp only [bnn] at hb)) | fail
   (apply f_ret; iterate 7 (· simp only [go_sem, *, Tryz.results209]; try rfl))
   exact hh
  ·have b2 : (((s.length % 4 : Nat) : Int) != 0) = true := by rw [bne_iff_ne]; omega
   clear hA hB hs htl
   refine en Tryz.func209 rfl Tryz.ntmps209 fun hO => ?_
   repeat' first | refine st ?_ | (refine ca ?_; first | apply htr) | (refine br ?_ ?_; all_goals (intro hb; try simp only [bnn] at hb)) | fail
   (apply f_ret; iterate 7 (· simp only [go_sem, *, Tryz.results209]; try rfl))
   exact hh
 have good := Good.out hA
 clear Bad Good
 by_cases ht0 : t = []
 ·subst ht0
  have good : R (.ret (.tup [.str [], .int .i64 0])) S := good
  have hbe := fun S' ha => bldEmpty w0 S' S.length ha
  have hva := Hva.out
  have hr := Hr.out
  have hc0 : ((0 : Nat) : Int) = 0 := rfl
  by_cases hs0 : s.length = 0
  ·have b1 : ((0 : Int) != (s.length : Int)) = false := by rw [hs0]; rfl
   clear hA hs0 hs htl
   refine en Tryz.func209 rfl Tryz.ntmps209 fun hO => ?_
   repeat' first | refine st ?_ | (refine ca ?_; first | apply htr | apply hr | apply hva | (apply hbe; (· simp only [go_sem, *]; try rfl))) | (refine br ?_ ?_; all_goals (intro hb; try simp only [bnn] at hb)) | apply x_loop | apply x_lp | fail
   (apply f_ret; iterate 7 (· simp only [go_sem, *, Tryz.results209]; try rfl))
   exact good
  ·have b1 : ((0 : Int) != (s.length : Int)) = true := by rw [bne_iff_ne]; omega
   simp at hA
   have b2 : (((s.length % 4 : Nat) : Int) != 0) = false := by rw [bne_eq_false_iff_eq]; omega
   have b3 : decide ((2 : Int) < ((s.length - ([] : List UInt8).length : Nat) : Int)) = false := by simp; omega
   exfalso
   omega
 have Good := Lib.hid good
 have hpos : 0 < t.length := List.length_pos_iff.2 ht0
 clear good ht0
 have HA := Lib.hid (And.intro hA (And.intro hs htl))
 have Hpos := Lib.hid hpos
 clear hA hs htl hpos
 refine en Tryz.func209 rfl Tryz.ntmps209 fun hO => ?_
 refine share ?K1 ?hK1 fun key1 => ?main
 case main =>
  have hva := Hva.out
  have hr := Hr.out
  replace key1 := Lib.hid key1
  obtain ⟨hA, hs, htl⟩ := HA.out
  by_cases h1 : t.length = s.length
  ·have b1 : ((t.length : Int) != (s.length : Int)) = false := by rw [h1]; simp
   clear hA h1 hs htl
   repeat' first | refine st ?_ | (refine ca ?_; first | apply htr | apply hr | apply hva) | (refine br ?_ ?_; all_goals (intro hb; try simp only [bnn] at hb)) | fail
   refine x_gen [1000000, 4, 5, 6, 7, 8, 9, 41, 42] ?_
   simp only [agreeL, go_sem]
   exact key1.out
  ·have b1 : ((t.length : Int) != (s.length : Int)) = true := by rw [bne_iff_ne]; omega
   have b2 : (((s.length % 4 : Nat) : Int) != 0) = false := by rw [bne_eq_false_iff_eq]; omega
   have b3 : decide ((2 : Int) < ((s.length - t.length : Nat) : Int)) = false := by simp; omega
   clear hA h1 hs htl
   repeat' first | refine st ?_ | (refine ca ?_; first | apply htr | apply hr | apply hva) | (refine br ?_ ?_; all_goals (intro hb; try simp only [bnn] at hb)) | fail
   refine x_gen [1000000, 4, 5, 6, 7, 8, 9, 41, 42] ?_
   simp only [agreeL, go_sem]
   exact key1.out
 case hK1 =>
  rintro env ⟨e0, f4, f5, f6, f7, f8, f9, f41, f42⟩
  clear htr
  refine x_thawC (a := S.length) (j := 1) 5 1 (by (simp only [go_sem, *]; try rfl)) (by (simp only [go_sem, *]; try rfl)) (by decide) ?_
  simp only [go_sem, *]
  refine x_ind (fun (p : Nat × Nat × AV × List Nat) env S' => p.1 ≤ t.length ∧ (p.2.2.1 = .nilp ∨ p.2.2.1 = .own S.length 0) ∧ valsC (t.take p.1) = some p.2.2.2 ∧ env 1000000 = .dfr [] ∧ env 4 = .str t ∧ env 5 = .own S.length 0 ∧ env 6 = .fn (.func 231) [] [.own (S.length + 5) 0, .own (S.length + 1) 0, .own (S.length + 4) 0, .own (S.length + 2) 0, .own (S.length + 3) 0] ∧
   env 7 = .mval M ∧ env 8 = .int .i64 ((stD p.2.2.2).wait : Nat) ∧ env 9 = .int .i64 ((stD p.2.2.2).rest : Nat) ∧ env 41 = .int .i64 t.length ∧ env 42 = .int .i64 (p.1 : Int) ∧
   S' = S ++ blkE S.length p.2.2.1 p.2.1 ((stD p.2.2.2).out.map UInt8.ofNat) 6 8 (.fn (.func 252) [] [.own S.length 0]) ((stD p.2.2.2).wait : Nat) ((stD p.2.2.2).rest : Nat)) (fun p => t.length - p.1) (0, 0, .nilp, []) ?_ ?_
  ·exact ⟨Nat.zero_le _, .inl rfl, rfl, by (simp only [go_sem, *]; try rfl), by (simp only [go_sem, *]; try rfl), by (simp only [go_sem, *]; try rfl), by (simp only [go_sem, *]; try rfl), by (simp only [go_sem, *]; try rfl), by (simp only [go_sem, *]; try rfl), by (simp only [go_sem, *]; try rfl), by (simp only [go_sem, *]; try rfl), by (simp only [go_sem, *]; try rfl), rfl⟩
  ·clear e0 f4 f5 f6 f7 f8 f9 f41 f42
   rintro ⟨k, i, ad, V⟩ env S' ⟨hk, had, hV, e0, f4, f5, f6, f7, f8, f9, f41, f42, rfl⟩ IH
   simp only at hk had hV f8 f9 f42
   have HI := Lib.hid IH
   obtain ⟨hVm, hV64⟩ := vals_some hV
   have hVl : V.length = k := by have := congrArg List.length hVm; simp at this; omega
   obtain ⟨hi1, hi2⟩ := stD_inv V.length V rfl hV64
   obtain ⟨hA, hs, htl⟩ := HA.out
   clear IH hVm
   by_cases hlt : k < t.length
   ·obtain ⟨c, hx⟩ : ∃ c, t[k]? = some c := ⟨_, List.getElem?_eq_getElem hlt⟩
    have h1 : decide ((k : Int) < (t.length : Int)) = true := by simpa using hlt
    have hw : IntKind.i64.wrap ((k : Int) + 1) = (k : Int) + 1 := IntWalk.i64_in _ (by omega)
    have hlk := fun S' => Hlk.out S' c
    cases hc : valC c with
    | none =>
     have hbad : valsC t = none := vals_bad hx hc
     have hh := Good.out
     rw [hbad] at hh
     have hh : R (.ret (.tup [.str [], .int .i64 6])) S := hh
     simp only [hc, lkW] at hlk
     have Hlk2 := Lib.hid hlk
     clear hlk hbad hc hlt hk had hV hs htl hA hi1 hi2 hVl hV64 HI
     unfold blkE
     repeat' first | refine st ?_ | (refine br ?_ ?_; all_goals (intro hb; try simp only [bnn] at hb)) | fail
     refine x_step (v := .tup [.int .i64 0, .bool false]) (by (simp only [go_sem, *]; try rfl)) (step_lk (Hlk2.out _)) (by (simp only [go_sem, *]; try rfl)) ?_
     simp only [putA]
     repeat' first | refine st ?_ | (refine br ?_ ?_; all_goals (intro hb; try simp only [bnn] at hb)) | fail
     (apply f_ret; iterate 7 (· simp only [go_sem, *, Tryz.results209]; try rfl))
     exact hh
    | some v =>
     have hv : v < 64 := (val_some hc).1
     have hV2 : valsC (t.take (k + 1)) = some (V ++ [v]) := by
      rw [List.take_add_one, hx]
      show valsC (t.take k ++ [c]) = _
      rw [vals_snoc, hV, hc]
      rfl
     simp only [hc, lkW] at hlk
     have hg := regD w0 S hO ad had i (stD V) v hv hi1 (by omega)
     rw [← stD_snoc] at hg
     generalize hp1 : ((stD (V ++ [v])).wait : Int) = p1 at hg
     generalize hp2 : ((stD (V ++ [v])).rest : Int) = p2 at hg
     generalize hp3 : (stD (V ++ [v])).out.map UInt8.ofNat = p3 at hg
     have Hp := Lib.hid (And.intro hp1 (And.intro hp2 hp3))
     clear hp1 hp2 hp3
     unfold blkE at hg
     simp only at hg ⊢
     generalize ((stD V).wait : Int) = q1 at *
     generalize ((stD V).rest : Int) = q2 at *
     generalize (stD V).out.map UInt8.ofNat = q3 at *
     have Hlt := Lib.hid hlt
     have HO := Lib.hid hO
     have Hlk2 := Lib.hid hlk
     have HV2 := Lib.hid hV2
     clear hlk hc hlt hk had hV hs htl hA hi1 hi2 hVl hV64 hO hv hV2
     unfold blkE
     repeat' first | refine st ?_ | (refine br ?_ ?_; all_goals (intro hb; try simp only [bnn] at hb)) | fail
     refine x_step (v := .tup [.int .i64 v, .bool true]) (by (simp only [go_sem, *]; try rfl)) (step_lk (Hlk2.out _)) (by (simp only [go_sem, *]; try rfl)) ?_
     simp only [putA]
     repeat' first | refine st ?_ | (refine ca ?_; first | apply hg) | (refine br ?_ ?_; all_goals (intro hb; try simp only [bnn] at hb)) | fail
     intro ad' i' had'
     have Had := Lib.hid had'
     clear had'
     repeat' first | refine st ?_ | (refine br ?_ ?_; all_goals (intro hb; try simp only [bnn] at hb)) | fail
     obtain ⟨hp1, hp2, hp3⟩ := Hp.out
     subst hp1 hp2 hp3
     refine HI.out (k + 1, i', ad', V ++ [v]) _ _ (by have := Hlt.out; simp only; omega) ⟨Hlt.out, Had.out, HV2.out, ?_, ?_, ?_, ?_, ?_, ?_, ?_, ?_, ?_, rfl⟩
     all_goals (simp only [go_sem, *]; try rfl)
   ·have hkl : k = t.length := by omega
    subst hkl
    have h1 : decide ((t.length : Int) < (t.length : Int)) = false := by simp
    rw [List.take_length] at hV
    have hh := Good.out
    rw [hV] at hh
    simp only at hh
    rw [← stD_decV V hV64] at hh
    have hol := dec_outlen V
    have hwi := dec_wait V
    rw [← stD_decV V hV64] at hol hwi
    have hp := Hpos.out
    simp only
    by_cases hw6 : (stD V).wait = 6
    ·rw [if_pos (.inl hw6)] at hh
     have hh : R (.ret (.tup [.str [], .int .i64 6])) S := hh
     have d1 : (((stD V).wait : Int) == 6) = true := by rw [hw6]; rfl
     clear hk had hV hs htl hA hi1 hi2 hVl hV64 HI hw6 hol hwi hp hlt
     unfold blkE
     generalize ((stD V).wait : Int) = q1 at *
     generalize ((stD V).rest : Int) = q2 at *
     repeat' first | refine st ?_ | (refine br ?_ ?_; all_goals (intro hb; try simp only [bnn] at hb)) | fail
     (apply f_ret; iterate 7 (· simp only [go_sem, *, Tryz.results209]; try rfl))
     exact hh
    ·have d1 : (((stD V).wait : Int) == 6) = false := by rw [beq_eq_false_iff_ne]; omega
     by_cases hr0 : (stD V).rest = 0
     ·rw [if_neg (by omega)] at hh
      have hh : R (.ret (.tup [.str ((stD V).out.map UInt8.ofNat), .int .i64 0])) S := hh
      have d2 : (((stD V).rest : Int) != 0) = false := by rw [hr0]; rfl
      have hbl : 1 ≤ ((stD V).out.map UInt8.ofNat).length := by rw [List.length_map]; omega
      have hst := bsE w0 S ad had i ((stD V).out.map UInt8.ofNat) 6 8 (.fn (.func 252) [] [.own S.length 0]) ((stD V).wait : Nat) ((stD V).rest : Nat) hbl
      have HO := Lib.hid hO
      clear hk had hV hs htl hA hi1 hi2 hVl hV64 HI hw6 hol hwi hp hlt hr0 hbl hO
      generalize ((stD V).wait : Int) = q1 at *
      generalize ((stD V).rest : Int) = q2 at *
      generalize (stD V).out.map UInt8.ofNat = q3 at *
      unfold blkE at hst ⊢
      repeat' first | refine st ?_ | (refine ca ?_; first | apply hst) | (refine br ?_ ?_; all_goals (intro hb; try simp only [bnn] at hb)) | fail
      (apply f_ret; iterate 7 (· simp only [go_sem, *, Tryz.results209]; try rfl))
      exact hh
     ·rw [if_pos (.inr hr0)] at hh
      have hh : R (.ret (.tup [.str [], .int .i64 6])) S := hh
      have d2 : (((stD V).rest : Int) != 0) = true := by rw [bne_iff_ne]; omega
      clear hk had hV hs htl hA hi1 hi2 hVl hV64 HI hw6 hol hwi hp hlt hr0
      generalize ((stD V).wait : Int) = q1 at *
      generalize ((stD V).rest : Int) = q2 at *
      unfold blkE
      repeat' first | refine st ?_ | (refine br ?_ ?_; all_goals (intro hb; try simp only [bnn] at hb)) | fail
      (apply f_ret; iterate 7 (· simp only [go_sem, *, Tryz.results209]; try rfl))
      exact hh
def DeB (w0 : World) : Prop := gl w0 11 = .pro [.int .u8 0, .int .u8 1, .int .u8 56, .int .u8 2, .int .u8 57, .int .u8 49, .int .u8 28, .int .u8 3, .int .u8 61, .int .u8 58, .int .u8 42, .int .u8 50, .int .u8 38, .int .u8 29, .int .u8 17, .int .u8 4, .int .u8 62, .int .u8 47, .int .u8 59, .int .u8 36, .int .u8 45, .int .u8 43, .int .u8 51, .int .u8 22, .int .u8 53, .int .u8 39, .int .u8 33, .int .u8 30, .int .u8 24, .int .u8 18, .int .u8 12, .int .u8 5, .int .u8 63, .int .u8 55, .int .u8 48, .int .u8 27, .int .u8 60, .int .u8 41, .int .u8 37, .int .u8 16, .int .u8 46, .int .u8 35, .int .u8 44, .int .u8 21, .int .u8 52, .int .u8 32, .int .u8 23, .int .u8 11, .int .u8 54, .int .u8 26, .int .u8 40, .int .u8 15, .int .u8 34, .int .u8 20, .int .u8 31, .int .u8 10, .int .u8 25, .int .u8 14, .int .u8 19, .int .u8 9, .int .u8 13, .int .u8 8, .int .u8 7, .int .u8 6]
def Nam (w0 : World) : Prop := gl w0 2 = .pro [.int .i64 0, .int .i64 13434880, .int .i64 52480, .int .i64 13487360, .int .i64 238, .int .i64 13435085, .int .i64 52685, .int .i64 15066597, .int .i64 8355711, .int .i64 16711680, .int .i64 65280, .int .i64 16776960, .int .i64 6053119, .int .i64 16711935, .int .i64 65535, .int .i64 16777215]
def namL : List Nat := [0, 13434880, 52480, 13487360, 238, 13435085, 52685, 15066597, 8355711, 16711680, 65280, 16776960, 6053119, 16711935, 65535, 16777215]
theorem nam_at : ∀ n, n < 16 → ∃ v rr, List.drop (n * 1) ([.int .i64 0, .int .i64 13434880, .int .i64 52480, .int .i64 13487360, .int .i64 238, .int .i64 13435085, .int .i64 52685, .int .i64 15066597, .int .i64 8355711, .int .i64 16711680, .int .i64 65280, .int .i64 16776960, .int .i64 6053119, .int .i64 16711935, .int .i64 65535, .int .i64 16777215] : List AV) = .int .i64 (v : Nat) :: rr ∧ v ≤ 16777215 := by
 intro n hn
 have h1 : (namL.map (fun v : Nat => AV.int .i64 (v : Int))) = ([.int .i64 0, .int .i64 13434880, .int .i64 52480, .int .i64 13487360, .int .i64 238, .int .i64 13435085, .int .i64 52685, .int .i64 15066597, .int .i64 8355711, .int .i64 16711680, .int .i64 65280, .int .i64 16776960, .int .i64 6053119, .int .i64 16711935, .int .i64 65535, .int .i64 16777215] : List AV) := rfl
 have h2 : ∀ n, n < 16 → ∃ v, namL[n]? = some v ∧ v ≤ 16777215 := by
  have : ∀ n, n < 16 → namL.getD n 99999999 ≤ 16777215 ∧ n < namL.length := by decide
  intro n hn
  obtain ⟨h1, h2⟩ := this n hn
  refine ⟨namL[n], List.getElem?_eq_getElem h2, ?_⟩
  rwa [List.getD_eq_getElem?_getD, List.getElem?_eq_getElem h2] at h1
 obtain ⟨v, hv, hvl⟩ := h2 n hn
 refine ⟨v, (namL.map (fun v : Nat => AV.int .i64 (v : Int))).drop (n + 1), ?_, hvl⟩
 have hl := (List.getElem?_eq_some_iff.1 hv)
 rw [Nat.mul_one, ← h1, List.drop_eq_getElem_cons (by simpa using hl.1)]
 simp [hl.2]
theorem oLevel (w0 : World) (S : List Blk) (n : Nat) (hn : n < 6) (R : Rt) (h : R (.ret (.int .i64 (if n = 0 then 0 else (55 + 40 * n : Nat) : Nat))) S) : ACall Tryz.prog w0 271 [.int .i64 n] S R := by
 by_cases h0 : n = 0
 ·subst h0
  have h : R (.ret (.int .i64 0)) S := h
  refine en Tryz.func271 rfl Tryz.ntmps271 fun hO => ?_
  repeat' first | refine st ?_ | (refine br ?_ ?_; all_goals (intro hb; try simp only [bnn] at hb)) | fail
  (apply f_ret; iterate 7 (· simp only [go_sem, *, Tryz.results271]; try rfl))
  exact h
 ·rw [if_neg h0] at h
  have d1 : ((n : Int) == 0) = false := by rw [beq_eq_false_iff_ne]; omega
  have w1 : IntKind.i64.wrap (40 * (n : Int)) = ((40 * n : Nat) : Int) := by rw [IntWalk.i64_in _ (by omega)]; omega
  have w2 : IntKind.i64.wrap (55 + ((40 * n : Nat) : Int)) = ((55 + 40 * n : Nat) : Int) := by rw [IntWalk.i64_in _ (by omega)]; omega
  clear hn h0
  refine en Tryz.func271 rfl Tryz.ntmps271 fun hO => ?_
  repeat' first | refine st ?_ | (refine br ?_ ?_; all_goals (intro hb; try simp only [bnn] at hb)) | fail
  (apply f_ret; iterate 7 (· simp only [go_sem, *, Tryz.results271]; try rfl))
  exact h
def lvl (n : Nat) : Nat := if n = 0 then 0 else 55 + 40 * n
theorem lvl_le {n : Nat} (h : n < 6) : lvl n < 256 := by unfold lvl; split <;> omega
theorem orN {a b : Nat} (ha : a < 16777216) (hb : b < 16777216) : IntKind.i64.wrap (((BitVec.ofInt IntKind.i64.bits (a : Int) ||| BitVec.ofInt IntKind.i64.bits (b : Int)).toNat : Nat) : Int) = ((a ||| b : Nat) : Int) ∧ a ||| b < 16777216 := by
 have hl : a ||| b < 2 ^ 24 := Nat.or_lt_two_pow ha hb
 refine ⟨?_, hl⟩
 rw [BitVec.toNat_or]
 have e2 : (BitVec.ofInt IntKind.i64.bits (a : Int)).toNat = a := by
  show (BitVec.ofInt 64 _).toNat = _
  rw [BitVec.toNat_ofInt]; omega
 have e3 : (BitVec.ofInt IntKind.i64.bits (b : Int)).toNat = b := by
  show (BitVec.ofInt 64 _).toNat = _
  rw [BitVec.toNat_ofInt]; omega
 rw [e2, e3]
 exact IntWalk.i64_in _ (by omega)
theorem shlK {a k : Nat} (ha : a < 65536) (hk : k ≤ 16) : IntKind.i64.wrap ((a : Int) * 2 ^ min k 64) = ((a * 2 ^ k : Nat) : Int) := by
 have h2 : 2 ^ k ≤ 2 ^ 16 := Nat.pow_le_pow_right (by omega) hk
 have h3 : a * 2 ^ k ≤ 65536 * 65536 := Nat.mul_le_mul (by omega) h2
 rw [Nat.min_eq_left (by omega), show ((a : Int) * 2 ^ k) = ((a * 2 ^ k : Nat) : Int) by simp]
 exact IntWalk.i64_in _ (by omega)
set_option maxHeartbeats 4000000 in
theorem oAt (w0 : World) (hN : Nam w0) (S : List Blk) (n : Nat) (hn : n < 256) (R : Rt) (h : ∀ v : Nat, v < 16777216 → R (.ret (.int .i64 v)) S) : ACall Tryz.prog w0 230 [.int .i64 n] S R := by
 unfold Nam at hN
 by_cases h16 : n < 16
 ·have d1 : decide ((n : Int) < 16) = true := by simp; omega
  have hk6 : (n : Int) < ((16 : Nat) : Int) := by omega
  obtain ⟨v, rr, hv, hvl⟩ := nam_at n h16
  have hh := h v (by omega)
  clear h hn h16 hvl
  refine en Tryz.func230 rfl Tryz.ntmps230 fun hO => ?_
  repeat' first | refine st ?_ | (refine br ?_ ?_; all_goals (intro hb; try simp only [bnn] at hb)) | fail
  (apply f_ret; iterate 7 (· simp only [go_sem, *, Tryz.results230]; try rfl))
  exact hh
 have d1 : decide ((n : Int) < 16) = false := by simp; omega
 by_cases h232 : 232 ≤ n
 ·have d2 : decide ((232 : Int) ≤ (n : Int)) = true := by simp; omega
  have w1 : IntKind.i64.wrap ((n : Int) - 232) = ((n - 232 : Nat) : Int) := by rw [IntWalk.i64_in _ (by omega)]; omega
  have w2 : IntKind.i64.wrap (10 * ((n - 232 : Nat) : Int)) = ((10 * (n - 232) : Nat) : Int) := by rw [IntWalk.i64_in _ (by omega)]; omega
  have w3 : IntKind.i64.wrap (8 + ((10 * (n - 232) : Nat) : Int)) = ((8 + 10 * (n - 232) : Nat) : Int) := by rw [IntWalk.i64_in _ (by omega)]; omega
  have w4 : IntKind.i64.wrap (((8 + 10 * (n - 232) : Nat) : Int) * 65793) = (((8 + 10 * (n - 232)) * 65793 : Nat) : Int) := by rw [IntWalk.i64_in _ (by omega)]; omega
  have hh := h ((8 + 10 * (n - 232)) * 65793) (by omega)
  clear h hn h16 h232 hN
  refine en Tryz.func230 rfl Tryz.ntmps230 fun hO => ?_
  repeat' first | refine st ?_ | (refine br ?_ ?_; all_goals (intro hb; try simp only [bnn] at hb)) | fail
  (apply f_ret; iterate 7 (· simp only [go_sem, *, Tryz.results230]; try rfl))
  exact hh
 ·have d2 : decide ((232 : Int) ≤ (n : Int)) = false := by simp; omega
  obtain ⟨m, hm⟩ : ∃ m, m = n - 16 := ⟨_, rfl⟩
  have w1 : IntKind.i64.wrap ((n : Int) - 16) = (m : Int) := by rw [IntWalk.i64_in _ (by omega)]; omega
  have k1 : IntKind.i64.wrap ((m : Int).tdiv 36) = ((m / 36 : Nat) : Int) := tdK m 36 (by omega)
  have k2 : IntKind.i64.wrap ((m : Int).tdiv 6) = ((m / 6 : Nat) : Int) := tdK m 6 (by omega)
  have k3 : ((m / 6 : Nat) : Int).tmod 6 = ((m / 6 % 6 : Nat) : Int) := tmK (m / 6) 6
  have k4 : (m : Int).tmod 6 = ((m % 6 : Nat) : Int) := tmK m 6
  have l1 := fun S' => oLevel w0 S' (m / 36) (by omega)
  have l2 := fun S' => oLevel w0 S' (m / 6 % 6) (by omega)
  have l3 := fun S' => oLevel w0 S' (m % 6) (by omega)
  have b1 := lvl_le (n := m / 36) (by omega)
  have b2 := lvl_le (n := m / 6 % 6) (by omega)
  have b3 := lvl_le (n := m % 6) (by omega)
  rw [show (if m / 36 = 0 then 0 else (55 + 40 * (m / 36) : Nat)) = lvl (m / 36) from rfl] at l1
  rw [show (if m / 6 % 6 = 0 then 0 else (55 + 40 * (m / 6 % 6) : Nat)) = lvl (m / 6 % 6) from rfl] at l2
  rw [show (if m % 6 = 0 then 0 else (55 + 40 * (m % 6) : Nat)) = lvl (m % 6) from rfl] at l3
  generalize lvl (m / 36) = L1 at *
  generalize lvl (m / 6 % 6) = L2 at *
  generalize lvl (m % 6) = L3 at *
  have s1 := shlK (a := L1) (k := 16) (by omega) (by omega)
  have s2 := shlK (a := L2) (k := 8) (by omega) (by omega)
  obtain ⟨a1, ha1⟩ : ∃ a1, a1 = L1 * 2 ^ 16 := ⟨_, rfl⟩
  obtain ⟨a2, ha2⟩ : ∃ a2, a2 = L2 * 2 ^ 8 := ⟨_, rfl⟩
  rw [← ha1] at s1
  rw [← ha2] at s2
  obtain ⟨o1, q1⟩ := orN (a := a1) (b := a2) (by omega) (by omega)
  obtain ⟨o2, q2⟩ := orN (a := a1 ||| a2) (b := L3) q1 (by omega)
  simp only [IntKind.bits] at o1 o2
  have hh := h _ q2
  generalize a1 ||| a2 = a3 at *
  generalize a3 ||| L3 = a4 at *
  clear h hn h16 h232 hm b1 b2 b3 ha1 ha2 q1 q2 hN
  refine en Tryz.func230 rfl Tryz.ntmps230 fun hO => ?_
  repeat' first | refine st ?_ | (refine ca ?_; first | apply l1 | apply l2 | apply l3) | (refine br ?_ ?_; all_goals (intro hb; try simp only [bnn] at hb)) | fail
  (apply f_ret; iterate 7 (· simp only [go_sem, *, Tryz.results230]; try rfl))
  exact hh
set_option maxHeartbeats 1000000 in
theorem isPow (w0 : World) (S : List Blk) (R : Rt) (h : R (.ret (.bool true)) S) : ACall Tryz.prog w0 303 [.int .i64 16] S R := by
 have f1 : IntKind.i64.wrap 15 = 15 := by decide
 have f2 : IntKind.i64.wrap (((BitVec.ofInt IntKind.i64.bits 16 &&& BitVec.ofInt IntKind.i64.bits 15).toNat : Nat) : Int) = 0 := by decide
 simp only [IntKind.bits] at f2
 refine en Tryz.func303 rfl Tryz.ntmps303 fun hO => ?_
 repeat' first | refine st ?_ | (refine br ?_ ?_; all_goals (intro hb; try simp only [bnn] at hb)) | fail
 (apply f_ret; iterate 7 (· simp only [go_sem, *, Tryz.results303]; try rfl))
 exact h
set_option maxHeartbeats 1000000 in
theorem tz64 (w0 : World) (hD : DeB w0) (S : List Blk) (R : Rt) (h : R (.ret (.int .i64 4)) S) : ACall Tryz.prog w0 326 [.int .u64 16] S R := by
 unfold DeB at hD
 have f1 : IntKind.u64.wrap (-16) = 18446744073709551600 := by decide
 have f2 : IntKind.u64.wrap (((BitVec.ofInt IntKind.u64.bits 16 &&& BitVec.ofInt IntKind.u64.bits 18446744073709551600).toNat : Nat) : Int) = 16 := by decide
 have f3 : IntKind.u64.wrap (16 * 285870213051353865) = 4573923408821661840 := by decide
 have f4 : (4573923408821661840 : Int).fdiv (2 ^ min 58 64) = 15 := by decide
 have f5 : IntKind.i64.wrap 4 = 4 := by decide
 simp only [IntKind.bits] at f2
 refine en Tryz.func326 rfl Tryz.ntmps326 fun hO => ?_
 repeat' first | refine st ?_ | (refine br ?_ ?_; all_goals (intro hb; try simp only [bnn] at hb)) | fail
 (apply f_ret; iterate 7 (· simp only [go_sem, *, Tryz.results326]; try rfl))
 exact h
set_option maxHeartbeats 1000000 in
theorem tz (w0 : World) (hD : DeB w0) (S : List Blk) (R : Rt) (h : R (.ret (.int .i64 4)) S) : ACall Tryz.prog w0 304 [.int .u64 16] S R := by
 have ht := tz64 w0 hD
 refine en Tryz.func304 rfl Tryz.ntmps304 fun hO => ?_
 repeat' first | refine st ?_ | (refine ca ?_; first | apply ht) | (refine br ?_ ?_; all_goals (intro hb; try simp only [bnn] at hb)) | fail
 (apply f_ret; iterate 7 (· simp only [go_sem, *, Tryz.results304]; try rfl))
 exact h
theorem andU {m k : Nat} (hm : m < 4294967296) (hk : k ≤ 16) : IntKind.u64.wrap (((BitVec.ofInt IntKind.u64.bits (m : Int) &&& BitVec.ofInt IntKind.u64.bits ((2 ^ k - 1 : Nat) : Int)).toNat : Nat) : Int) = ((m % 2 ^ k : Nat) : Int) := by
 rw [BitVec.toNat_and]
 have h2 : 2 ^ k ≤ 2 ^ 16 := Nat.pow_le_pow_right (by omega) hk
 have h0 : 0 < 2 ^ k := Nat.two_pow_pos k
 have e1 : (BitVec.ofInt IntKind.u64.bits (m : Int)).toNat = m := by
  show (BitVec.ofInt 64 _).toNat = _
  rw [BitVec.toNat_ofInt]; omega
 have e2 : (BitVec.ofInt IntKind.u64.bits ((2 ^ k - 1 : Nat) : Int)).toNat = 2 ^ k - 1 := by
  show (BitVec.ofInt 64 _).toNat = _
  rw [BitVec.toNat_ofInt]; omega
 rw [e1, e2, Nat.and_two_pow_sub_one_eq_mod m k]
 have := Nat.mod_lt m h0
 exact IntWalk.u64_in _ (by omega)
theorem ze65 : Go.Fen.zeroA Tryz.prog 315 = some [.int .u8 0, .int .u8 0, .int .u8 0, .int .u8 0, .int .u8 0, .int .u8 0, .int .u8 0, .int .u8 0, .int .u8 0, .int .u8 0, .int .u8 0, .int .u8 0, .int .u8 0, .int .u8 0, .int .u8 0, .int .u8 0, .int .u8 0, .int .u8 0, .int .u8 0, .int .u8 0, .int .u8 0, .int .u8 0, .int .u8 0, .int .u8 0, .int .u8 0, .int .u8 0, .int .u8 0, .int .u8 0, .int .u8 0, .int .u8 0, .int .u8 0, .int .u8 0, .int .u8 0, .int .u8 0, .int .u8 0, .int .u8 0, .int .u8 0, .int .u8 0, .int .u8 0, .int .u8 0, .int .u8 0, .int .u8 0, .int .u8 0, .int .u8 0, .int .u8 0, .int .u8 0, .int .u8 0, .int .u8 0, .int .u8 0, .int .u8 0, .int .u8 0, .int .u8 0, .int .u8 0, .int .u8 0, .int .u8 0, .int .u8 0, .int .u8 0, .int .u8 0, .int .u8 0, .int .u8 0, .int .u8 0, .int .u8 0, .int .u8 0, .int .u8 0, .int .u8 0] := by kernel_rfl
theorem dig_at : ∀ d, d < 16 → ([48, 49, 50, 51, 52, 53, 54, 55, 56, 57, 97, 98, 99, 100, 101, 102, 103, 104, 105, 106, 107, 108, 109, 110, 111, 112, 113, 114, 115, 116, 117, 118, 119, 120, 121, 122] : List UInt8)[d]? = some (hexC d) := by decide +kernel
set_option maxHeartbeats 10000000 in
theorem fmtBits (w0 : World) (hD : DeB w0) (S : List Blk) (m : Nat) (h1 : 16777216 ≤ m) (h2 : m < 33554432) (R : Rt)
  (h : ∀ v, R (.ret (.tup [v, .str [49, hexC (m / 16 / 16 / 16 / 16 / 16 % 16), hexC (m / 16 / 16 / 16 / 16 % 16), hexC (m / 16 / 16 / 16 % 16), hexC (m / 16 / 16 % 16), hexC (m / 16 % 16), hexC (m % 16)]])) S) :
  ACall Tryz.prog w0 266 [.sval false [], .int .u64 m, .int .i64 16, .bool false, .bool false] S R := by
 have hp := isPow w0
 have hz := ze65
 have wk58 : IntKind.i64.wrap 58 = 58 := by decide
 have wk59 : IntKind.i64.wrap 59 = 59 := by decide
 have wk60 : IntKind.i64.wrap 60 = 60 := by decide
 have wk61 : IntKind.i64.wrap 61 = 61 := by decide
 have wk62 : IntKind.i64.wrap 62 = 62 := by decide
 have wk63 : IntKind.i64.wrap 63 = 63 := by decide
 have wk64 : IntKind.i64.wrap 64 = 64 := by decide
 have wk65 : IntKind.i64.wrap 65 = 65 := by decide
 have htz := tz w0 hD
 have f1 : IntKind.u64.wrap 16 = 16 := by decide
 have f2 : IntKind.u64.wrap 4 = 4 := by decide
 have f3 : IntKind.u64.wrap 15 = 15 := by decide
 obtain ⟨u1, hu1⟩ : ∃ u, u = m / 16 := ⟨_, rfl⟩
 obtain ⟨u2, hu2⟩ : ∃ u, u = u1 / 16 := ⟨_, rfl⟩
 obtain ⟨u3, hu3⟩ : ∃ u, u = u2 / 16 := ⟨_, rfl⟩
 obtain ⟨u4, hu4⟩ : ∃ u, u = u3 / 16 := ⟨_, rfl⟩
 obtain ⟨u5, hu5⟩ : ∃ u, u = u4 / 16 := ⟨_, rfl⟩
 have g0 : decide ((16 : Int) ≤ (m : Int)) = true := by simp; omega
 have a0 : IntKind.u64.wrap (((BitVec.ofInt IntKind.u64.bits (m : Int) &&& BitVec.ofInt IntKind.u64.bits 15).toNat : Nat) : Int) = ((m % 16 : Nat) : Int) := andU (m := m) (k := 4) (by omega) (by omega)
 simp only [IntKind.bits] at a0
 have x0 := dig_at (m % 16) (by omega)
 have s0 : (m : Int).fdiv (2 ^ min 4 64) = (u1 : Int) := by rw [hu1]; exact fdivK m 4 (by omega)
 have g1 : decide ((16 : Int) ≤ (u1 : Int)) = true := by simp; omega
 have a1 : IntKind.u64.wrap (((BitVec.ofInt IntKind.u64.bits (u1 : Int) &&& BitVec.ofInt IntKind.u64.bits 15).toNat : Nat) : Int) = ((u1 % 16 : Nat) : Int) := andU (m := u1) (k := 4) (by omega) (by omega)
 simp only [IntKind.bits] at a1
 have x1 := dig_at (u1 % 16) (by omega)
 have s1 : (u1 : Int).fdiv (2 ^ min 4 64) = (u2 : Int) := by rw [hu2]; exact fdivK u1 4 (by omega)
 have g2 : decide ((16 : Int) ≤ (u2 : Int)) = true := by simp; omega
 have a2 : IntKind.u64.wrap (((BitVec.ofInt IntKind.u64.bits (u2 : Int) &&& BitVec.ofInt IntKind.u64.bits 15).toNat : Nat) : Int) = ((u2 % 16 : Nat) : Int) := andU (m := u2) (k := 4) (by omega) (by omega)
 simp only [IntKind.bits] at a2
 have x2 := dig_at (u2 % 16) (by omega)
 have s2 : (u2 : Int).fdiv (2 ^ min 4 64) = (u3 : Int) := by rw [hu3]; exact fdivK u2 4 (by omega)
 have g3 : decide ((16 : Int) ≤ (u3 : Int)) = true := by simp; omega
 have a3 : IntKind.u64.wrap (((BitVec.ofInt IntKind.u64.bits (u3 : Int) &&& BitVec.ofInt IntKind.u64.bits 15).toNat : Nat) : Int) = ((u3 % 16 : Nat) : Int) := andU (m := u3) (k := 4) (by omega) (by omega)
 simp only [IntKind.bits] at a3
 have x3 := dig_at (u3 % 16) (by omega)
 have s3 : (u3 : Int).fdiv (2 ^ min 4 64) = (u4 : Int) := by rw [hu4]; exact fdivK u3 4 (by omega)
 have g4 : decide ((16 : Int) ≤ (u4 : Int)) = true := by simp; omega
 have a4 : IntKind.u64.wrap (((BitVec.ofInt IntKind.u64.bits (u4 : Int) &&& BitVec.ofInt IntKind.u64.bits 15).toNat : Nat) : Int) = ((u4 % 16 : Nat) : Int) := andU (m := u4) (k := 4) (by omega) (by omega)
 simp only [IntKind.bits] at a4
 have x4 := dig_at (u4 % 16) (by omega)
 have s4 : (u4 : Int).fdiv (2 ^ min 4 64) = (u5 : Int) := by rw [hu5]; exact fdivK u4 4 (by omega)
 have g5 : decide ((16 : Int) ≤ (u5 : Int)) = true := by simp; omega
 have a5 : IntKind.u64.wrap (((BitVec.ofInt IntKind.u64.bits (u5 : Int) &&& BitVec.ofInt IntKind.u64.bits 15).toNat : Nat) : Int) = ((u5 % 16 : Nat) : Int) := andU (m := u5) (k := 4) (by omega) (by omega)
 simp only [IntKind.bits] at a5
 have x5 := dig_at (u5 % 16) (by omega)
 have s5 : (u5 : Int).fdiv (2 ^ min 4 64) = 1 := by rw [fdivK u5 4 (by omega)]; omega
 rw [← hu1] at h
 rw [← hu2] at h
 rw [← hu3] at h
 rw [← hu4] at h
 rw [← hu5] at h
 generalize hexC (m % 16) = c0 at h x0
 generalize m % 16 = e0 at a0 x0
 generalize hexC (u1 % 16) = c1 at h x1
 generalize u1 % 16 = e1 at a1 x1
 generalize hexC (u2 % 16) = c2 at h x2
 generalize u2 % 16 = e2 at a2 x2
 generalize hexC (u3 % 16) = c3 at h x3
 generalize u3 % 16 = e3 at a3 x3
 generalize hexC (u4 % 16) = c4 at h x4
 generalize u4 % 16 = e4 at a4 x4
 generalize hexC (u5 % 16) = c5 at h x5
 generalize u5 % 16 = e5 at a5 x5
 clear h1 h2 hu1 hu2 hu3 hu4 hu5 hD
 refine en Tryz.func266 rfl Tryz.ntmps266 fun hO => ?_
 repeat' first | refine st ?_ | (refine ca ?_; first | apply hp | apply htz) | (refine br ?_ ?_; all_goals (intro hb; try simp only [bnn] at hb)) | apply x_loop | apply x_lp | fail
 refine x_frz (t := 12) (a := S.length) (o := 0) (by (simp only [go_sem, *]; try rfl)) (by (simp only [go_sem, *]; try rfl)) ?_
 simp only [go_sem, *]
 refine x_sliceP (i := 58) (kk := .i64) (e := 5) (m := 65) (by (simp only [go_sem, *]; try rfl)) rfl (by (simp only [go_sem, *]; try rfl)) (by (simp only [go_sem, *]; try rfl)) (by (simp only [go_sem, *]; try rfl)) (by show _ = AV.int .i64 58; (simp only [go_sem, *]; try rfl)) (by (simp only [go_sem, *]; try rfl)) (by decide) (by (simp only [go_sem, *]; try rfl)) ?_
 simp only [putA]
 repeat' first | apply x_seq | apply x_skip | apply x_block | apply x_exit | apply x_ret | apply x_ops_nil | apply p_blk | apply p_exit_it | apply p_exit_hit | apply p_ret_it | apply p_ret_blk | apply p_panic_it | apply p_panic_blk | apply p_end | (apply p_exit_miss; (· rfl)) | (apply x_region; simp only [List.toList_toArray]) | (apply x_step0; (· rfl); (· simp only [go_sem, *, UInt8.ofNat_toNat]; try rfl); (· rfl); simp only [putA]) | (apply ac_ret; simp only [putA]) | apply ac_panic | (apply x_panic; (· simp only [go_sem, *, UInt8.ofNat_toNat]; try rfl); (· rfl); (· simp only [go_sem, *, UInt8.ofNat_toNat]; try rfl)) | (apply x_step; (iterate 2 (· simp only [go_sem, *, UInt8.ofNat_toNat]; try rfl)); (· rfl); simp only [putA]) | (apply x_unwanted; (· simp only [go_sem, *, UInt8.ofNat_toNat]; try rfl); (· rfl); simp only [putA]) | (apply x_condT; (· simp only [go_sem, *, UInt8.ofNat_toNat]; try rfl)) | (apply x_condF; (· simp only [go_sem, *, UInt8.ofNat_toNat]; try rfl)) | (apply x_guardS; (· rfl); (fail_if_success (focus (show _ = some true; (· simp only [go_sem, *, UInt8.ofNat_toNat]; try rfl)))); (· simp only [go_sem, *, UInt8.ofNat_toNat]; try rfl); all_goals (intro hb; try simp only [bnn] at hb)) | (apply x_condS; (· simp only [go_sem, *, UInt8.ofNat_toNat]; try rfl); all_goals (intro hb; try simp only [bnn] at hb)) | fail
 (apply f_ret; iterate 7 (· simp only [go_sem, *, Tryz.results266]; try rfl))
 exact h _
theorem orB {v : Nat} (hv : v < 16777216) : IntKind.i64.wrap (((BitVec.ofInt IntKind.i64.bits (v : Int) ||| BitVec.ofInt IntKind.i64.bits 16777216).toNat : Nat) : Int) = ((v + 16777216 : Nat) : Int) := by
 rw [BitVec.toNat_or]
 have e2 : (BitVec.ofInt IntKind.i64.bits (v : Int)).toNat = v := by
  show (BitVec.ofInt 64 _).toNat = _
  rw [BitVec.toNat_ofInt]; omega
 have e3 : (BitVec.ofInt IntKind.i64.bits 16777216).toNat = 16777216 := by decide
 rw [e2, e3]
 have e4 : v ||| 16777216 = v + 16777216 := by
  have := Nat.shiftLeft_add_eq_or_of_lt (b := v) (i := 24) (by omega) 1
  rw [Nat.shiftLeft_eq, Nat.or_comm, show (1 : Nat) * 2 ^ 24 = 16777216 by decide] at this
  omega
 rw [e4]
 exact IntWalk.i64_in _ (by omega)
theorem fmtIn (w0 : World) (hD : DeB w0) (S : List Blk) (m : Nat) (h1 : 16777216 ≤ m) (h2 : m < 33554432) (R : Rt)
  (h : R (.ret (.str [49, hexC (m / 16 / 16 / 16 / 16 / 16 % 16), hexC (m / 16 / 16 / 16 / 16 % 16), hexC (m / 16 / 16 / 16 % 16), hexC (m / 16 / 16 % 16), hexC (m / 16 % 16), hexC (m % 16)])) S) :
  ACall Tryz.prog w0 222 [.int .i64 m, .int .i64 16] S R := by
 have hf := fun S' => fmtBits w0 hD S' m h1 h2
 generalize [49, hexC (m / 16 / 16 / 16 / 16 / 16 % 16), hexC (m / 16 / 16 / 16 / 16 % 16), hexC (m / 16 / 16 / 16 % 16), hexC (m / 16 / 16 % 16), hexC (m / 16 % 16), hexC (m % 16)] = T at hf h
 have w1 : IntKind.u64.wrap (m : Int) = (m : Int) := IntWalk.u64_in _ (by omega)
 have d1 : decide ((m : Int) < 0) = false := by simp
 clear h1 h2 hD
 refine en Tryz.func222 rfl Tryz.ntmps222 fun hO => ?_
 repeat' first | refine st ?_ | (refine ca ?_; first | apply hf) | (refine br ?_ ?_; all_goals (intro hb; try simp only [bnn] at hb)) | fail
 intro v
 repeat' first | refine st ?_ | (refine br ?_ ?_; all_goals (intro hb; try simp only [bnn] at hb)) | fail
 (apply f_ret; iterate 7 (· simp only [go_sem, *, Tryz.results222]; try rfl))
 exact h
theorem fmtI (w0 : World) (hD : DeB w0) (S : List Blk) (m : Nat) (h1 : 16777216 ≤ m) (h2 : m < 33554432) (R : Rt)
  (h : R (.ret (.str [49, hexC (m / 16 / 16 / 16 / 16 / 16 % 16), hexC (m / 16 / 16 / 16 / 16 % 16), hexC (m / 16 / 16 / 16 % 16), hexC (m / 16 / 16 % 16), hexC (m / 16 % 16), hexC (m % 16)])) S) :
  ACall Tryz.prog w0 189 [.int .i64 m, .int .i64 16] S R := by
 have hf := fun S' => fmtIn w0 hD S' m h1 h2
 generalize [49, hexC (m / 16 / 16 / 16 / 16 / 16 % 16), hexC (m / 16 / 16 / 16 / 16 % 16), hexC (m / 16 / 16 / 16 % 16), hexC (m / 16 / 16 % 16), hexC (m / 16 % 16), hexC (m % 16)] = T at hf h
 clear h1 h2 hD
 refine en Tryz.func189 rfl Tryz.ntmps189 fun hO => ?_
 repeat' first | refine st ?_ | (refine ca ?_; first | apply hf) | (refine br ?_ ?_; all_goals (intro hb; try simp only [bnn] at hb)) | fail
 (apply f_ret; iterate 7 (· simp only [go_sem, *, Tryz.results189]; try rfl))
 exact h
theorem rgb_dig {n : Nat} (h : n < 16777216) : (n + 16777216) / 16 / 16 / 16 / 16 / 16 % 16 = n / 1048576 ∧ (n + 16777216) / 16 / 16 / 16 / 16 % 16 = n / 65536 % 16 ∧ (n + 16777216) / 16 / 16 / 16 % 16 = n / 4096 % 16 ∧ (n + 16777216) / 16 / 16 % 16 = n / 256 % 16 ∧ (n + 16777216) / 16 % 16 = n / 16 % 16 ∧ (n + 16777216) % 16 = n % 16 := by
 omega
theorem oRgb0 (w0 : World) (S : List Blk) (n : Int) (hn : colB 0 n = true) (R : Rt) (h : R (.ret (.tup [.int .i64 0, .bool false])) S) : ACall Tryz.prog w0 188 [.agg [.int .i64 0, .int .i64 n]] S R := by
 have hc := fun S' => oColCheck w0 S' 0 n
 rw [hn, if_pos rfl] at hc
 clear hn
 refine en Tryz.func188 rfl Tryz.ntmps188 fun hO => ?_
 repeat' first | refine st ?_ | (refine ca ?_; first | apply hc) | (refine br ?_ ?_; all_goals (intro hb; try simp only [bnn] at hb)) | fail
 (apply f_ret; iterate 7 (· simp only [go_sem, *, Tryz.results188]; try rfl))
 exact h
theorem oRgb1 (w0 : World) (hN : Nam w0) (S : List Blk) (n : Int) (hn : colB 1 n = true) (R : Rt) (h : ∀ v : Nat, v < 16777216 → R (.ret (.tup [.int .i64 v, .bool true])) S) : ACall Tryz.prog w0 188 [.agg [.int .i64 1, .int .i64 n]] S R := by
 have hc := fun S' => oColCheck w0 S' 1 n
 rw [hn, if_pos rfl] at hc
 have hb : 0 ≤ n ∧ n ≤ 255 := by simpa [colB, limO] using hn
 obtain ⟨u, rfl⟩ : ∃ u : Nat, n = u := ⟨n.toNat, by omega⟩
 have ha := fun S' => oAt w0 hN S' u (by omega)
 clear hn hb
 refine en Tryz.func188 rfl Tryz.ntmps188 fun hO => ?_
 repeat' first | refine st ?_ | (refine ca ?_; first | apply hc | apply ha) | (refine br ?_ ?_; all_goals (intro hb; try simp only [bnn] at hb)) | fail
 intro v hv
 have hh := h v hv
 clear h hv
 repeat' first | refine st ?_ | (refine br ?_ ?_; all_goals (intro hb; try simp only [bnn] at hb)) | fail
 (apply f_ret; iterate 7 (· simp only [go_sem, *, Tryz.results188]; try rfl))
 exact hh
def ColR (w0 : World) (k n : Int) (v : Nat) : Prop := ∀ (S : List Blk) (R : Rt), R (.ret (.tup [.int .i64 v, .bool true])) S → ACall Tryz.prog w0 188 [.agg [.int .i64 k, .int .i64 n]] S R
theorem oText (w0 : World) (hD : DeB w0) (S : List Blk) (k n : Int) (v : Nat) (hv : v < 16777216) (hk : colB k n = true) (hR : ColR w0 k n v) (R : Rt) (h : R (.ret (.tup [.str (rgbT v), .int .i64 0])) S) : ACall Tryz.prog w0 115 [.agg [.int .i64 k, .int .i64 n]] S R := by
 have hc := fun S' => oColCheck w0 S' k n
 rw [hk, if_pos rfl] at hc
 unfold ColR at hR
 have ho := orB hv
 have hf := fun S' => fmtI w0 hD S' (v + 16777216) (by omega) (by omega)
 obtain ⟨g1, g2, g3, g4, g5, g6⟩ := rgb_dig hv
 rw [g1, g2, g3, g4, g5, g6] at hf
 unfold rgbT at h
 generalize hexC (v / 1048576) = c1 at *
 generalize hexC (v / 65536 % 16) = c2 at *
 generalize hexC (v / 4096 % 16) = c3 at *
 generalize hexC (v / 256 % 16) = c4 at *
 generalize hexC (v / 16 % 16) = c5 at *
 generalize hexC (v % 16) = c6 at *
 generalize v + 16777216 = m at ho hf
 simp only [IntKind.bits] at ho
 clear hv hk hD g1 g2 g3 g4 g5 g6
 refine en Tryz.func115 rfl Tryz.ntmps115 fun hO => ?_
 repeat' first | apply x_seq | apply x_skip | apply x_block | apply x_exit | apply x_ret | apply x_ops_nil | apply p_blk | apply p_exit_it | apply p_exit_hit | apply p_ret_it | apply p_ret_blk | apply p_panic_it | apply p_panic_blk | apply p_end | (apply p_exit_miss; (· rfl)) | (apply x_region; simp only [List.toList_toArray]) | (apply x_step0; (· rfl); (· simp only [go_sem, *, List.length_append]; try rfl); (· rfl); simp only [putA]) | (apply ac_ret; simp only [putA]) | apply ac_panic | (apply x_callA []; (· simp only [go_sem, *, List.length_append]; try rfl); (· rfl); (· simp only [go_sem, *, List.length_append]; try rfl); (· rfl); (iterate 2 (· simp only [go_sem, *, List.length_append]; try rfl)); (first | apply hc | apply hR | apply hf); simp only [afterCall, putA]) | (apply x_panic; (· simp only [go_sem, *, List.length_append]; try rfl); (· rfl); (· simp only [go_sem, *, List.length_append]; try rfl)) | (apply x_step; (iterate 2 (· simp only [go_sem, *, List.length_append]; try rfl)); (· rfl); simp only [putA]) | (apply x_unwanted; (· simp only [go_sem, *, List.length_append]; try rfl); (· rfl); simp only [putA]) | (apply x_condT; (· simp only [go_sem, *, List.length_append]; try rfl)) | (apply x_condF; (· simp only [go_sem, *, List.length_append]; try rfl)) | (apply x_guardS; (· rfl); (fail_if_success (focus (show _ = some true; (· simp only [go_sem, *, List.length_append]; try rfl)))); (· simp only [go_sem, *, List.length_append]; try rfl); all_goals (intro hb; try simp only [bnn] at hb)) | (apply x_condS; (· simp only [go_sem, *, List.length_append]; try rfl); all_goals (intro hb; try simp only [bnn] at hb)) | (apply d_draw; (· exact mixed); (· simp only [List.size_toArray, List.length_cons, List.length_nil, Nat.reduceAdd]; try rfl)) | (apply d_done; (· decide +kernel)) | (apply a_0; (repeat (apply a_s; (· decide +kernel))); apply a_take; (· decide +kernel); (· first | exact qds_FPost | exact qds_RPost | exact qds_YB | assumption); (· rfl); (iterate 3 (· simp only [go_sem, *, List.length_append]; try rfl)); (· rfl); (· simp only [go_sem, *, List.length_append]; try rfl); simp only [putA]) | (apply a_0; (repeat (apply a_s; (· decide +kernel))); apply a_unw; (· decide +kernel); (· first | exact qds_FPost | exact qds_RPost | exact qds_YB | assumption); (· rfl); (iterate 2 (· simp only [go_sem, *, List.length_append]; try rfl)); (· rfl); simp only [putA]) | (apply a_0; (repeat (apply a_o; (· decide +kernel))); apply a_one; (· decide +kernel)) | (apply o_step; (iterate 3 (· simp only [go_sem, *, List.length_append]; try rfl)); (· rfl); simp only [putA]) | (apply o_unw; (iterate 2 (· simp only [go_sem, *, List.length_append]; try rfl)); (· rfl); simp only [putA]) | apply pr_nil | apply pr_same | apply pr_go | apply pl_nil | apply pl_none | (apply pl_skip; (· decide +kernel)) | (apply pl_one; (· simp only [go_sem, *, List.length_append]; try rfl)) | (apply o_call []; (iterate 2 (· simp only [go_sem, *, List.length_append]; try rfl)); (· rfl); (· simp only [go_sem, *, List.length_append]; try rfl); (· rfl); (iterate 2 (· simp only [go_sem, *, List.length_append]; try rfl)); (first | apply hc | apply hR | apply hf); simp only [afterOp, putA]) | fail
 all_goals (apply f_ret; iterate 7 (· simp only [go_sem, *, Tryz.results115]; try rfl))
 all_goals exact h
set_option maxHeartbeats 2000000 in
theorem oText1 (w0 : World) (hD : DeB w0) (hN : Nam w0) (S : List Blk) (n : Int) (hk : colB 1 n = true) (R : Rt) (h : ∀ x, R (.ret (.tup [.str x, .int .i64 0])) S) : ACall Tryz.prog w0 115 [.agg [.int .i64 1, .int .i64 n]] S R := by
 have hc := fun S' => oColCheck w0 S' 1 n
 rw [hk, if_pos rfl] at hc
 have hR := fun S' => oRgb1 w0 hN S' n hk
 have HD := Lib.hid hD
 clear hk hN hD
 refine en Tryz.func115 rfl Tryz.ntmps115 fun hO => ?_
 repeat' first | refine st ?_ | (refine ca ?_; first | apply hc | apply hR) | (refine br ?_ ?_; all_goals (intro hb; try simp only [bnn] at hb)) | fail
 intro v hv
 have ho := orB hv
 have hf := fun S' => fmtI w0 HD.out S' (v + 16777216) (by omega) (by omega)
 obtain ⟨g1, g2, g3, g4, g5, g6⟩ := rgb_dig hv
 rw [g1, g2, g3, g4, g5, g6] at hf
 generalize hexC (v / 1048576) = c1 at *
 generalize hexC (v / 65536 % 16) = c2 at *
 generalize hexC (v / 4096 % 16) = c3 at *
 generalize hexC (v / 256 % 16) = c4 at *
 generalize hexC (v / 16 % 16) = c5 at *
 generalize hexC (v % 16) = c6 at *
 generalize v + 16777216 = m at ho hf
 simp only [IntKind.bits] at ho
 clear hv g1 g2 g3 g4 g5 g6
 repeat' first | apply x_seq | apply x_skip | apply x_block | apply x_exit | apply x_ret | apply x_ops_nil | apply p_blk | apply p_exit_it | apply p_exit_hit | apply p_ret_it | apply p_ret_blk | apply p_panic_it | apply p_panic_blk | apply p_end | (apply p_exit_miss; (· rfl)) | (apply x_region; simp only [List.toList_toArray]) | (apply x_step0; (· rfl); (· simp only [go_sem, *, List.length_append]; try rfl); (· rfl); simp only [putA]) | (apply ac_ret; simp only [putA]) | apply ac_panic | (apply x_callA []; (· simp only [go_sem, *, List.length_append]; try rfl); (· rfl); (· simp only [go_sem, *, List.length_append]; try rfl); (· rfl); (iterate 2 (· simp only [go_sem, *, List.length_append]; try rfl)); (first | apply hf); simp only [afterCall, putA]) | (apply x_panic; (· simp only [go_sem, *, List.length_append]; try rfl); (· rfl); (· simp only [go_sem, *, List.length_append]; try rfl)) | (apply x_step; (iterate 2 (· simp only [go_sem, *, List.length_append]; try rfl)); (· rfl); simp only [putA]) | (apply x_unwanted; (· simp only [go_sem, *, List.length_append]; try rfl); (· rfl); simp only [putA]) | (apply x_condT; (· simp only [go_sem, *, List.length_append]; try rfl)) | (apply x_condF; (· simp only [go_sem, *, List.length_append]; try rfl)) | (apply x_guardS; (· rfl); (fail_if_success (focus (show _ = some true; (· simp only [go_sem, *, List.length_append]; try rfl)))); (· simp only [go_sem, *, List.length_append]; try rfl); all_goals (intro hb; try simp only [bnn] at hb)) | (apply x_condS; (· simp only [go_sem, *, List.length_append]; try rfl); all_goals (intro hb; try simp only [bnn] at hb)) | (apply d_draw; (· exact mixed); (· simp only [List.size_toArray, List.length_cons, List.length_nil, Nat.reduceAdd]; try rfl)) | (apply d_done; (· decide +kernel)) | (apply a_0; (repeat (apply a_s; (· decide +kernel))); apply a_take; (· decide +kernel); (· first | exact qds_FPost | exact qds_RPost | exact qds_YB | assumption); (· rfl); (iterate 3 (· simp only [go_sem, *, List.length_append]; try rfl)); (· rfl); (· simp only [go_sem, *, List.length_append]; try rfl); simp only [putA]) | (apply a_0; (repeat (apply a_s; (· decide +kernel))); apply a_unw; (· decide +kernel); (· first | exact qds_FPost | exact qds_RPost | exact qds_YB | assumption); (· rfl); (iterate 2 (· simp only [go_sem, *, List.length_append]; try rfl)); (· rfl); simp only [putA]) | (apply a_0; (repeat (apply a_o; (· decide +kernel))); apply a_one; (· decide +kernel)) | (apply o_step; (iterate 3 (· simp only [go_sem, *, List.length_append]; try rfl)); (· rfl); simp only [putA]) | (apply o_unw; (iterate 2 (· simp only [go_sem, *, List.length_append]; try rfl)); (· rfl); simp only [putA]) | apply pr_nil | apply pr_same | apply pr_go | apply pl_nil | apply pl_none | (apply pl_skip; (· decide +kernel)) | (apply pl_one; (· simp only [go_sem, *, List.length_append]; try rfl)) | (apply o_call []; (iterate 2 (· simp only [go_sem, *, List.length_append]; try rfl)); (· rfl); (· simp only [go_sem, *, List.length_append]; try rfl); (· rfl); (iterate 2 (· simp only [go_sem, *, List.length_append]; try rfl)); (first | apply hf); simp only [afterOp, putA]) | fail
 all_goals (apply f_ret; iterate 7 (· simp only [go_sem, *, Tryz.results115]; try rfl))
 all_goals exact h _
theorem oText0 (w0 : World) (S : List Blk) (n : Int) (hk : colB 0 n = true) (R : Rt) (h : R (.ret (.tup [.str [], .int .i64 2])) S) : ACall Tryz.prog w0 115 [.agg [.int .i64 0, .int .i64 n]] S R := by
 have hc := fun S' => oColCheck w0 S' 0 n
 rw [hk, if_pos rfl] at hc
 have hR := fun S' => oRgb0 w0 S' n hk
 clear hk
 refine en Tryz.func115 rfl Tryz.ntmps115 fun hO => ?_
 repeat' first | refine st ?_ | (refine ca ?_; first | apply hc | apply hR) | (refine br ?_ ?_; all_goals (intro hb; try simp only [bnn] at hb)) | fail
 (apply f_ret; iterate 7 (· simp only [go_sem, *, Tryz.results115]; try rfl))
 exact h
theorem oTextF (w0 : World) (S : List Blk) (k n : Int) (hk : colB k n = false) (R : Rt) (h : R (.ret (.tup [.str [], .int .i64 130])) S) : ACall Tryz.prog w0 115 [.agg [.int .i64 k, .int .i64 n]] S R := by
 have hc := fun S' => oColCheck w0 S' k n
 rw [hk, if_neg (by decide)] at hc
 clear hk
 refine en Tryz.func115 rfl Tryz.ntmps115 fun hO => ?_
 repeat' first | refine st ?_ | (refine ca ?_; first | apply hc) | (refine br ?_ ?_; all_goals (intro hb; try simp only [bnn] at hb)) | fail
 (apply f_ret; iterate 7 (· simp only [go_sem, *, Tryz.results115]; try rfl))
 exact h
theorem oTextX (w0 : World) (hD : DeB w0) (hN : Nam w0) (S : List Blk) (k n : Int) (R : Rt)
  (hG : k = 2 → colB 2 n = true → R (.ret (.tup [.str (rgbT n.toNat), .int .i64 0])) S) (hB : ∀ x e, ¬ (k = 2 ∧ colB 2 n = true) → (((e : Int) == 0) && ((k : Int) == 2)) = false → R (.ret (.tup [.str x, .int .i64 e])) S) : ACall Tryz.prog w0 115 [.agg [.int .i64 k, .int .i64 n]] S R := by
 cases hc : colB k n with
 | false => exact oTextF w0 S k n hc R (hB [] 130 (by rintro ⟨rfl, e⟩; rw [e] at hc; cases hc) rfl)
 | true =>
  have hk : k = 0 ∨ k = 1 ∨ k = 2 := by
   simp [colB] at hc
   omega
  rcases hk with rfl | rfl | rfl
  ·exact oText0 w0 S n hc R (hB _ _ (by simp) rfl)
  ·exact oText1 w0 hD hN S n hc R (fun x => hB x 0 (by simp) rfl)
  ·have hb : 0 ≤ n ∧ n ≤ 16777215 := by simpa [colB, limO] using hc
   obtain ⟨v, rfl⟩ : ∃ v : Nat, n = v := ⟨n.toNat, by omega⟩
   exact oText w0 hD S 2 v v (by omega) hc (fun S' R h => oRgb w0 S' v hc R h) R (hG rfl hc)
theorem countByte_eq (l : List UInt8) (c : UInt8) : (Lib.countByte l c : Int) = (l.count c : Nat) := rfl
theorem cntSl (w0 : World) (S : List Blk) (s : List UInt8) (R : Rt) (h : R (.ret (.int .i64 (s.count 47 : Nat))) S) : ACall Tryz.prog w0 317 [.str s, .str [47]] S R := by
 refine ACall.lib (vs := [.string ⟨s.toArray⟩, .string ⟨#[47]⟩]) (v := .int .i64 (s.count 47 : Nat)) (c := .int .i64 (s.count 47 : Nat)) (Go.Proofs.enters_of Tryz.func317 (by kernel_rfl) rfl) rfl rfl ?_ h
 intro w hb
 refine (Go.Proofs.Any.strings_Count_one Go.Proofs.Tryz.lays138 ⟨s.toArray⟩ 47 w).mono ?_
 rintro e w' ⟨rfl, rfl⟩
 refine ⟨by rw [← countByte_eq], RowKit.Below.refl _ _⟩
theorem pIdx (w0 : World) (S : List Blk) (s : List UInt8) (R : Rt) (h : R (.ret (.int .i64 (Lib.indexByte s 47))) S) : ACall Tryz.prog w0 307 [.str s, .int .u8 47] S R := by
 refine ACall.lib (vs := [.string ⟨s.toArray⟩, .int .u8 47]) (v := .int .i64 (Lib.indexByte s 47)) (c := .int .i64 (Lib.indexByte s 47)) (Go.Proofs.enters_of Tryz.func307 (by kernel_rfl) rfl) rfl rfl ?_ h
 intro w hb
 refine (Go.Proofs.Any.stringslite_IndexByte Go.Proofs.Tryz.lays217 ⟨s.toArray⟩ 47 w).mono ?_
 rintro e w' ⟨rfl, rfl⟩
 exact ⟨rfl, RowKit.Below.refl _ _⟩
theorem pIndexL (w0 : World) (S : List Blk) (s : List UInt8) (R : Rt) (h : R (.ret (.int .i64 (Lib.indexByte s 47))) S) : ACall Tryz.prog w0 281 [.str s, .str [47]] S R := by
 have hi := fun S' => pIdx w0 S' s
 by_cases hs : s = [47]
 ·subst hs
  have h : R (.ret (.int .i64 0)) S := h
  clear hi
  refine en Tryz.func281 rfl Tryz.ntmps281 fun hO => ?_
  repeat' first | refine st ?_ | (refine br ?_ ?_; all_goals (intro hb; try simp only [bnn] at hb)) | fail
  (apply f_ret; iterate 7 (· simp only [go_sem, *, Tryz.results281]; try rfl))
  exact h
 ·have hne : (([47] : List UInt8) == s) = false := by
   rw [beq_eq_false_iff_ne]
   exact fun e => hs e.symm
  generalize Lib.indexByte s 47 = i at h hi
  clear hs
  refine en Tryz.func281 rfl Tryz.ntmps281 fun hO => ?_
  repeat' first | refine st ?_ | (refine ca ?_; first | apply hi) | (refine br ?_ ?_; all_goals (intro hb; try simp only [bnn] at hb)) | fail
  (apply f_ret; iterate 7 (· simp only [go_sem, *, Tryz.results281]; try rfl))
  exact h
theorem pIndex (w0 : World) (S : List Blk) (s : List UInt8) (R : Rt) (h : R (.ret (.int .i64 (Lib.indexByte s 47))) S) : ACall Tryz.prog w0 318 [.str s, .str [47]] S R := by
 have hi := fun S' => pIndexL w0 S' s
 generalize Lib.indexByte s 47 = i at h hi
 refine en Tryz.func318 rfl Tryz.ntmps318 fun hO => ?_
 repeat' first | refine st ?_ | (refine ca ?_; first | apply hi) | (refine br ?_ ?_; all_goals (intro hb; try simp only [bnn] at hb)) | fail
 (apply f_ret; iterate 7 (· simp only [go_sem, *, Tryz.results318]; try rfl))
 exact h
def splL : List UInt8 → List (List UInt8)
 | [] => [[]]
 | b :: r => if b = 47 then [] :: splL r else match splL r with
  | [] => [[b]]
  | w :: ws => (b :: w) :: ws
theorem spl_ne : ∀ s, splL s ≠ []
 | [] => by simp [splL]
 | b :: r => by
  unfold splL
  split
  ·simp
  ·split <;> simp
theorem spl_cut : ∀ {w r : List UInt8}, (∀ b ∈ w, b ≠ 47) → splL (w ++ 47 :: r) = w :: splL r
 | [], r, _ => by simp [splL]
 | b :: w, r, h => by
  have ih := spl_cut (w := w) (r := r) (fun x hx => h x (by simp [hx]))
  simp only [List.cons_append]
  rw [splL, if_neg (h b (by simp)), ih]
theorem spl_one : ∀ {w : List UInt8}, w.count 47 = 0 → splL w = [w]
 | [], _ => rfl
 | b :: w, h => by
  have hb : b ≠ 47 := by rintro rfl; simp at h
  rw [List.count_cons_of_ne (by simpa using hb)] at h
  rw [splL, if_neg hb, spl_one h]
theorem idx47 : ∀ {s : List UInt8}, 0 < s.count 47 → ∃ w r, s = w ++ 47 :: r ∧ (∀ b ∈ w, b ≠ 47) ∧ Lib.indexByte s 47 = (w.length : Int)
 | [], h => by simp at h
 | b :: l, h => by
  by_cases hb : b = 47
  ·subst hb
   exact ⟨[], l, rfl, by simp, by simp [Lib.indexByte]⟩
  ·rw [List.count_cons_of_ne (by simpa using hb)] at h
   obtain ⟨w, r, h1, h2, h3⟩ := idx47 h
   refine ⟨b :: w, r, by rw [h1]; rfl, ?_, ?_⟩
   ·intro x hx
    rcases List.mem_cons.1 hx with rfl | hx
    ·exact hb
    ·exact h2 x hx
   ·have h1' : (b == 47) = false := by simpa using hb
    rw [Lib.indexByte, h1', h3]
    simp
    try omega
def seqE (D : List (List UInt8)) (k : Nat) : List AV := D.map AV.str ++ List.replicate k (.str [])
theorem seq_get (D : List (List UInt8)) (k : Nat) : (seqE D (k + 1))[D.length]? = some (.str []) := by
 unfold seqE
 rw [List.getElem?_append_right (by simp)]
 simp
theorem seq_set (D : List (List UInt8)) (k : Nat) (w : List UInt8) : (seqE D (k + 1)).set D.length (.str w) = seqE (D ++ [w]) k := by
 unfold seqE
 rw [List.set_append_right _ _ (by simp)]
 simp [List.replicate_succ]
theorem seq_len (D : List (List UInt8)) (k : Nat) : (seqE D k).length = D.length + k := by
 unfold seqE; simp
theorem seq_plain (D : List (List UInt8)) (k : Nat) : plainL (seqE D k) = true := by
 unfold seqE
 induction D with
 | nil =>
  simp only [List.map_nil, List.nil_append]
  induction k with
  | zero => rfl
  | succ k ih => rw [List.replicate_succ, plainL, ih]; rfl
 | cons d D ih => simp only [List.map_cons, List.cons_append, plainL, ih]; rfl
set_option maxHeartbeats 10000000 in
theorem gSplit (w0 : World) (S : List Blk) (s : List UInt8) (hs : s.length ≤ 100000) (R : Rt) (h : ∀ b, R (.ret (.sval b ((splL s).map AV.str))) S) : ACall Tryz.prog w0 292 [.str s, .str [47], .int .i64 0, .int .i64 (-1)] S R := by
 have hct := fun S' => cntSl w0 S' s
 have hcl : s.count 47 ≤ s.length := List.count_le_length
 obtain ⟨c, hc⟩ : ∃ c, c = s.count 47 := ⟨_, rfl⟩
 rw [← hc] at hct
 have w1 : IntKind.i64.wrap ((c : Int) + 1) = ((c + 1 : Nat) : Int) := by rw [IntWalk.i64_in _ (by omega)]; omega
 have w2 : IntKind.i64.wrap ((s.length : Int) + 1) = ((s.length + 1 : Nat) : Int) := by rw [IntWalk.i64_in _ (by omega)]; omega
 have hmn : (if ((s.length + 1 : Nat) : Int) < ((c + 1 : Nat) : Int) then ((s.length + 1 : Nat) : Int) else ((c + 1 : Nat) : Int)) = ((c + 1 : Nat) : Int) := by rw [if_neg (by omega)]
 have w3 : IntKind.i64.wrap (((c + 1 : Nat) : Int) - 1) = (c : Int) := by rw [IntWalk.i64_in _ (by omega)]; omega
 have b1 : ((c + 1 : Nat) : Int) * 16 ≤ 140737488355328 := by omega
 have b2 : ((c + 1 : Nat) : Int) * ((16 : Nat) : Int) ≤ 140737488355328 := by omega
 have b3 : ((c + 1 : Nat) : Int) ≤ ((c + 1 : Nat) : Int) := Int.le_refl _
 have hrp : List.replicate (c + 1) (AV.str []) = seqE [] (c + 1) := rfl
 have H := Lib.hid h
 have Hs := Lib.hid (And.intro hs (And.intro hcl hc))
 clear h hs hcl hc
 refine en Tryz.func292 rfl Tryz.ntmps292 fun hO => ?_
 repeat' first | refine st ?_ | (refine ca ?_; first | apply hct) | (refine br ?_ ?_; all_goals (intro hb; try simp only [bnn] at hb)) | fail
 refine x_ind (fun (p : List (List UInt8) × List UInt8) env S' => p.1 ++ splL p.2 = splL s ∧ p.1.length + p.2.count 47 = c ∧ p.2.length ≤ s.length ∧ env 1000000 = .dfr [] ∧ env 0 = .str p.2 ∧ env 1 = .str [47] ∧ env 2 = .int .i64 0 ∧ env 3 = .int .i64 c ∧ env 9 = .sown S.length 0 (c + 1) ∧ env 10 = .int .i64 (p.1.length : Int) ∧
  S' = S ++ [Blk.arr 9 1 0 0 (seqE p.1 (c + 1 - p.1.length))]) (fun p => p.2.length) ([], s) ?_ ?_
 ·obtain ⟨hs, hcl, hc⟩ := Hs.out
  exact ⟨rfl, by simp [hc], Nat.le_refl _, by (simp only [go_sem, *]; try rfl), by (simp only [go_sem, *]; try rfl), by (simp only [go_sem, *]; try rfl), by (simp only [go_sem, *]; try rfl), by (simp only [go_sem, *]; try rfl), by (simp only [go_sem, *]; try rfl), by (simp only [go_sem, *]; try rfl), rfl⟩
 ·rintro ⟨D, u⟩ env S' ⟨hD, hDc, hul, e0, f0, f1, f2, f3, f9, f10, rfl⟩ IH
  simp only at hD hDc hul f0 f10
  have HI := Lib.hid IH
  obtain ⟨hs, hcl, hc⟩ := Hs.out
  clear IH hct hrp hmn w1 w2 w3
  by_cases hu : 0 < u.count 47
  ·obtain ⟨w, r, hwr, hw47, hix⟩ := idx47 hu
   have hix2 := fun S' => pIndex w0 S' u
   rw [hix] at hix2
   have hul2 : u.length = w.length + 1 + r.length := by rw [hwr]; simp; omega
   have hcu : u.count 47 = r.count 47 + 1 := by
    have hw0 : w.count 47 = 0 := List.count_eq_zero.2 (fun hh => hw47 47 hh rfl)
    rw [hwr, List.count_append, hw0, List.count_cons_self]; omega
   have h1 : decide ((D.length : Int) < (c : Int)) = true := by simp; omega
   have d1 : decide ((w.length : Int) < 0) = false := by simp
   have k1 : IntKind.i64.wrap ((w.length : Int) + 0) = ((w.length : Nat) : Int) := by rw [IntWalk.i64_in _ (by omega)]; omega
   have k2 : IntKind.i64.wrap ((w.length : Int) + ((1 : Nat) : Int)) = ((w.length + 1 : Nat) : Int) := by rw [IntWalk.i64_in _ (by omega)]; omega
   have k3 : IntKind.i64.wrap ((D.length : Int) + 1) = ((D.length + 1 : Nat) : Int) := by rw [IntWalk.i64_in _ (by omega)]; omega
   have l1 : ((w.length : Nat) : Int) ≤ (u.length : Int) := by omega
   have l2 : ((w.length + 1 : Nat) : Int) ≤ (u.length : Int) := by omega
   have t1 : List.take w.length u = w := by rw [hwr]; simp
   have t2 : List.drop (w.length + 1) u = r := by rw [hwr, ← List.drop_drop]; simp
   have t3 : List.take u.length u = u := List.take_length
   have q1 : (D.length : Int) < ((c + 1 : Nat) : Int) := by omega
   have hk : c + 1 - D.length = (c + 1 - (D.length + 1)) + 1 := by omega
   have hg := seq_get D (c + 1 - (D.length + 1))
   have hse := seq_set D (c + 1 - (D.length + 1)) w
   rw [← hk] at hg hse
   have hsl := seq_len D (c + 1 - D.length)
   rw [show D.length + (c + 1 - D.length) = c + 1 by omega] at hsl
   have hi1 : (D ++ [w]) ++ splL r = splL s := by rw [← hD, hwr, spl_cut hw47]; simp
   have hi2 : (D ++ [w]).length + r.count 47 = c := by simp; omega
   have hdl : (D ++ [w]).length = D.length + 1 := by simp
   have Hi := Lib.hid (And.intro hi1 (And.intro hi2 (And.intro hdl (show r.length < u.length by omega))))
   have Hul := Lib.hid hul
   simp only
   generalize hE : seqE D (c + 1 - D.length) = E at *
   generalize hE1 : seqE (D ++ [w]) (c + 1 - (D.length + 1)) = E1 at *
   have HE1 := Lib.hid hE1
   clear hE hE1 hD hDc hul hs hcl hc hu hwr hw47 hix hul2 hcu hk hi1 hi2 hdl
   repeat' first | refine st ?_ | (refine ca ?_; first | apply hix2) | (refine br ?_ ?_; all_goals (intro hb; try simp only [bnn] at hb)) | fail
   obtain ⟨hi1, hi2, hdl, hrl⟩ := Hi.out
   rw [← HE1.out]
   refine HI.out (D ++ [w], r) _ _ hrl ⟨hi1, hi2, by have := Hul.out; simp only; omega, ?_, ?_, ?_, ?_, ?_, ?_, ?_, ?_⟩
   ·(simp only [go_sem, *]; try rfl)
   ·(simp only [go_sem, *]; try rfl)
   ·(simp only [go_sem, *]; try rfl)
   ·(simp only [go_sem, *]; try rfl)
   ·(simp only [go_sem, *]; try rfl)
   ·(simp only [go_sem, *]; try rfl)
   ·simp only [hdl]; (simp only [go_sem, *]; try rfl)
   ·simp only [hdl]
  ·have hu0 : u.count 47 = 0 := by omega
   have hDl : D.length = c := by omega
   rw [spl_one hu0] at hD
   have h1 : decide ((D.length : Int) < (c : Int)) = false := by simp; omega
   have k3 : IntKind.i64.wrap ((D.length : Int) + 1) = ((D.length + 1 : Nat) : Int) := by rw [IntWalk.i64_in _ (by omega)]; omega
   have q1 : (D.length : Int) < ((c + 1 : Nat) : Int) := by omega
   have hk : c + 1 - D.length = 0 + 1 := by omega
   have hg := seq_get D 0
   have hse := seq_set D 0 u
   rw [← hk] at hg hse
   have hsl := seq_len D (c + 1 - D.length)
   rw [show D.length + (c + 1 - D.length) = c + 1 by omega] at hsl
   have hE2 : seqE (D ++ [u]) 0 = (splL s).map AV.str := by rw [hD]; simp [seqE]
   rw [hE2] at hse
   have hh := H.out
   have hpl : plainL ((splL s).map AV.str) = true := by rw [← hE2]; exact seq_plain _ _
   have hl2 : ((splL s).map AV.str).length = c + 1 := by rw [← hE2, seq_len]; simp; omega
   have hall : ((splL s).map AV.str).all (fun el => el.cells.length == 1) = true := by
    rw [List.all_eq_true]
    intro x hx
    obtain ⟨y, _, rfl⟩ := List.mem_map.1 hx
    rfl
   simp only [AV.cells] at hall
   have q2 : ((D.length + 1 : Nat) : Int) ≤ ((c + 1 : Nat) : Int) := by omega
   have htk : List.take (D.length + 1) ((splL s).map AV.str) = (splL s).map AV.str := List.take_of_length_le (by omega)
   have hlt : ltL S.length ((splL s).map AV.str) = true := ltL_iff.2 fun x hx => by obtain ⟨y, _, rfl⟩ := List.mem_map.1 hx; rfl
   simp only
   generalize hE : seqE D (c + 1 - D.length) = E at *
   generalize (splL s).map AV.str = F at *
   clear hE hE2 hD hDc hul hs hcl hc hu hk HI hu0 hDl
   repeat' first | refine st ?_ | (refine br ?_ ?_; all_goals (intro hb; try simp only [bnn] at hb)) | fail
   refine x_frzS (t := 62) (a := S.length) (by decide) (by (simp only [go_sem, *]; try rfl)) (by (simp only [go_sem, *]; try rfl)) ?_
   repeat' first | refine st ?_ | (refine br ?_ ?_; all_goals (intro hb; try simp only [bnn] at hb)) | fail
   (apply f_ret; iterate 7 (· simp only [go_sem, *, Tryz.results292]; try rfl))
   exact hh _
def PU16 (w0 : World) : Prop := ∀ (S : List Blk) (b1 b2 : UInt8) (R : Rt), (∀ v, hexV b1 b2 = some v → R (.ret (.tup [.int .u64 v, .inil])) S) → (hexV b1 b2 = none → ∀ t x, R (.ret (.tup [.int .u64 0, .ifc t x])) S) →
 ACall Tryz.prog w0 250 [.str [b1, b2], .int .i64 16, .int .i64 8] S R
theorem or32 (c : UInt8) : IntKind.u8.wrap (↑(BitVec.ofInt IntKind.u8.bits (c.toNat : Int) ||| BitVec.ofInt IntKind.u8.bits 32).toNat) = (((c ||| 32).toNat : Nat) : Int) := by
 have : ∀ n : Nat, n < 256 → IntKind.u8.wrap (↑(BitVec.ofInt IntKind.u8.bits (n : Int) ||| BitVec.ofInt IntKind.u8.bits 32).toNat) = (((UInt8.ofNat n ||| 32).toNat : Nat) : Int) := by decide +kernel
 have h := this c.toNat c.toNat_lt
 rwa [UInt8.ofNat_toNat] at h
set_option maxHeartbeats 400000 in
theorem lower (w0 : World) (S : List Blk) (c : UInt8) (R : Rt) (h : R (.ret (.int .u8 ((c ||| 32).toNat : Nat))) S) : ACall Tryz.prog w0 319 [.int .u8 c.toNat] S R := by
 have g := or32 c
 simp only [IntKind.bits] at g
 refine en Tryz.func319 rfl Tryz.ntmps319 fun hO => ?_
 repeat' first | refine st ?_ | (refine br ?_ ?_; all_goals (intro hb; try simp only [bnn] at hb)) | fail
 (apply f_ret; iterate 7 (· simp only [go_sem, *, Tryz.results319]; try rfl))
 exact h
def lowN (b : UInt8) : Nat := (b ||| 32).toNat
def dv (b : UInt8) : Option Nat := if 48 ≤ b.toNat ∧ b.toNat ≤ 57 then some (b.toNat - 48) else if 97 ≤ lowN b ∧ lowN b ≤ 122 then some (lowN b - 87) else none
theorem dv_hex (b : UInt8) : hexD1 b = (dv b).bind fun d => if d < 16 then some d else none := by
 have : ∀ n : Nat, n < 256 → hexD1 (UInt8.ofNat n) = (dv (UInt8.ofNat n)).bind fun d => if d < 16 then some d else none := by decide +kernel
 have h := this b.toNat b.toNat_lt
 rwa [UInt8.ofNat_toNat] at h
theorem lower2 (w0 : World) (S : List Blk) (c : UInt8) (R : Rt) (h : R (.ret (.int .u8 (lowN c : Nat))) S) : ACall Tryz.prog w0 319 [.int .u8 c.toNat] S R := lower w0 S c R h
def synV : AV := .ifc 299 (.int .i64 2)
def puS (b1 b2 : UInt8) (i acc : Nat) : Prop := (i = 0 ∧ acc = 0) ∨ (i = 1 ∧ hexD1 b1 = some acc) ∨ (i = 2 ∧ hexV b1 b2 = some acc)
theorem pu_step {b1 b2 : UInt8} {i acc : Nat} (hp : (i = 0 ∧ acc = 0) ∨ (i = 1 ∧ hexD1 b1 = some acc)) : ∃ b : UInt8, [AV.int .u8 b1.toNat, AV.int .u8 b2.toNat][i]? = some (.int .u8 b.toNat) ∧ i < 2 ∧ acc < 16 ∧ (hexD1 b = none → hexV b1 b2 = none) ∧ (∀ d, hexD1 b = some d → puS b1 b2 (i + 1) (acc * 16 + d)) := by
 rcases hp with ⟨rfl, rfl⟩ | ⟨rfl, ha⟩
 ·exact ⟨b1, rfl, by omega, by omega, fun h => by simp [hexV, h], fun d h => .inr (.inl ⟨rfl, by simpa using h⟩)⟩
 ·refine ⟨b2, rfl, by omega, hexD1_lt ha, fun h => by simp [hexV, ha, h], fun d h => .inr (.inr ⟨rfl, ?_⟩)⟩
  simp [hexV, ha, h]; try omega
set_option maxHeartbeats 4000000 in
theorem puIn (w0 : World) (S : List Blk) (b1 b2 : UInt8) (R : Rt) (h : R (.ret (match hexV b1 b2 with | some v => .tup [.int .u64 v, .inil] | none => .tup [.int .u64 0, synV])) S) :
  ACall Tryz.prog w0 293 [.str [b1, b2], .int .i64 16, .int .i64 8] S R := by
 refine en Tryz.func293 rfl Tryz.ntmps293 fun hO => ?_
 repeat' first | refine st ?_ | (refine br ?_ ?_; all_goals (intro hb; try simp only [bnn] at hb)) | fail
 apply x_bytes
 ·(simp only [go_sem, *]; try rfl)
 ·rfl
 ·(simp only [go_sem, *]; try rfl)
 ·(simp only [go_sem, *]; try rfl)
 ·(simp only [go_sem, *]; try rfl)
 ·(simp only [go_sem, *]; try rfl)
 ·rfl
 simp only [putA, List.map_cons, List.map_nil, byteAV]
 repeat' first | refine st ?_ | (refine br ?_ ?_; all_goals (intro hb; try simp only [bnn] at hb)) | fail
 have hffw : IntKind.u64.wrap (IntKind.u64.wrap (1 * 2 ^ min (IntKind.u64.wrap 8).toNat 64) - 1) = 255 := by decide +kernel
 refine x_ind (fun (p : Nat × Nat) env S' => puS b1 b2 p.1 p.2 ∧ env 1000000 = .dfr [] ∧ env 1 = .int .i64 16 ∧ env 8 = .bool false ∧ env 9 = .str [b1, b2] ∧ env 10 = .int .u64 1152921504606846976 ∧ env 11 = .int .u64 255 ∧ env 12 = .bool false ∧ env 13 = .int .u64 p.2 ∧
  env 99 = .sval false [.int .u8 b1.toNat, .int .u8 b2.toNat] ∧ env 100 = .int .i64 2 ∧ env 101 = .int .i64 p.1 ∧ S' = S) (fun p => 2 - p.1) (0, 0) ?_ ?_
 ·exact ⟨.inl ⟨rfl, rfl⟩, by (simp only [go_sem, *]; try rfl), by (simp only [go_sem, *]; try rfl), by (simp only [go_sem, *]; try rfl), by (simp only [go_sem, *]; try rfl), by (simp only [go_sem, *]; try rfl), by (simp only [go_sem, *]; try rfl), by (simp only [go_sem, *]; try rfl), by (simp only [go_sem, *]; try rfl), by (simp only [go_sem, *]; try rfl), by (simp only [go_sem, *]; try rfl), by (simp only [go_sem, *]; try rfl), rfl⟩
 ·rintro ⟨i, acc⟩ env S' ⟨hp, e0, f1, f8, f9, f10, f11, f12, f13, f99, f100, f101, rfl⟩ IH
  have HI := Lib.hid IH
  have hw16 : IntKind.u8.wrap 16 = 16 := by decide
  have hw16' : IntKind.u64.wrap 16 = 16 := by decide
  have hlw := lower2 w0
  clear IH hffw
  simp only at f13 f101
  rcases or_assoc.2 hp with hp | ⟨rfl, ha⟩
  ·have hps := pu_step (b2 := b2) hp
   clear hp
   obtain ⟨b, hb, hlt, hacc, hnone, hsome⟩ := hps
   have h1 : decide ((i : Int) < 2) = true := by simp; omega
   have hwi : IntKind.i64.wrap ((i : Int) + 1) = ((i + 1 : Nat) : Int) := by rw [IntWalk.i64_in _ (by omega)]; rfl
   have Hlt := Lib.hid hlt
   have d5 : decide ((1152921504606846976 : Int) ≤ (acc : Int)) = false := by simp; omega
   have w5 : IntKind.u64.wrap ((acc : Int) * 16) = ((acc * 16 : Nat) : Int) := by rw [IntWalk.u64_in _ (by omega)]; omega
   have key : ∀ d : Nat, d < 16 → IntKind.u64.wrap (d : Int) = (d : Int) ∧ IntKind.u64.wrap (((acc * 16 : Nat) : Int) + (d : Int)) = ((acc * 16 + d : Nat) : Int) ∧ decide (((acc * 16 + d : Nat) : Int) < ((acc * 16 : Nat) : Int)) = false ∧ decide ((255 : Int) < ((acc * 16 + d : Nat) : Int)) = false := by
    intro d hd
    refine ⟨IntWalk.u64_in _ (by omega), by rw [IntWalk.u64_in _ (by omega)]; omega, by simp; omega, by simp; omega⟩
   clear hlt hacc
   have Hnone := Lib.hid hnone
   have Hsome := Lib.hid hsome
   clear hnone hsome
   have Key := Lib.hid key
   clear key
   have hdv := dv_hex b
   by_cases c1 : 48 ≤ b.toNat ∧ b.toNat ≤ 57
   ·have d1 : decide ((48 : Int) ≤ (b.toNat : Int)) = true := by simp; omega
    have d2 : decide ((b.toNat : Int) ≤ 57) = true := by simp; omega
    have d3 : ((b.toNat : Int) == 95) = false := by simp; omega
    have w1 : IntKind.u8.wrap ((b.toNat : Int) - 48) = ((b.toNat - 48 : Nat) : Int) := by rw [IntWalk.u8_in _ (by omega)]; omega
    have hd : hexD1 b = some (b.toNat - 48) := by rw [hdv]; simp [dv, c1]; omega
    have hd16 : b.toNat - 48 < 16 := by omega
    have d4 : decide ((16 : Int) ≤ ((b.toNat - 48 : Nat) : Int)) = false := by simp; omega
    clear hdv c1
    generalize hdd : b.toNat - 48 = d at *
    obtain ⟨k1, k2, k3, k4⟩ := Key.out d hd16
    have Hd := Lib.hid hd
    clear hdd hd hd16
    repeat' first | refine st ?_ | (refine ca ?_; first | apply hlw) | (refine br ?_ ?_; all_goals (intro hb; try simp only [bnn] at hb)) | fail
    refine HI.out (i + 1, acc * 16 + d) _ _ (by have := Hlt.out; simp only; omega) ⟨Hsome.out d Hd.out, ?_, ?_, ?_, ?_, ?_, ?_, ?_, ?_, ?_, ?_, ?_, rfl⟩
    all_goals (simp only [go_sem, *]; try rfl)
   ·have hnd : (decide ((48 : Int) ≤ (b.toNat : Int)) && decide ((b.toNat : Int) ≤ 57)) = false := by
     rw [Bool.and_eq_false_iff]; simp; omega
    by_cases c2 : 97 ≤ lowN b ∧ lowN b ≤ 122
    ·have e1 : decide ((97 : Int) ≤ (lowN b : Int)) = true := by simp; omega
     have e2 : decide ((lowN b : Int) ≤ 122) = true := by simp; omega
     have w1 : IntKind.u8.wrap ((lowN b : Int) - 97) = ((lowN b - 97 : Nat) : Int) := by rw [IntWalk.u8_in _ (by omega)]; omega
     have w2 : IntKind.u8.wrap (((lowN b - 97 : Nat) : Int) + 10) = ((lowN b - 87 : Nat) : Int) := by rw [IntWalk.u8_in _ (by omega)]; omega
     have hd : hexD1 b = if lowN b - 87 < 16 then some (lowN b - 87) else none := by rw [hdv]; simp only [dv, c1, c2, and_self, if_false, if_true, Option.bind_some]
     clear hdv c1 c2
     generalize lowN b - 87 = d at *
     generalize lowN b - 97 = e at *
     by_cases hd16 : d < 16
     ·rw [if_pos hd16] at hd
      have d4 : decide ((16 : Int) ≤ (d : Int)) = false := by simp; omega
      obtain ⟨k1, k2, k3, k4⟩ := Key.out d hd16
      have Hd := Lib.hid hd
      clear hd hd16
      cases q1 : decide ((48 : Int) ≤ (b.toNat : Int)) <;> cases q2 : decide ((b.toNat : Int) ≤ 57) <;> cases q3 : ((b.toNat : Int) == 95) <;> simp only [q1, q2] at hnd <;> try (exfalso; cases hnd; done)
      all_goals clear hnd
      all_goals
       repeat' first | refine st ?_ | (refine ca ?_; first | apply hlw) | (refine br ?_ ?_; all_goals (intro hb; try simp only [bnn] at hb)) | fail
       refine HI.out (i + 1, acc * 16 + d) _ _ (by have := Hlt.out; simp only; omega) ⟨Hsome.out d Hd.out, ?_, ?_, ?_, ?_, ?_, ?_, ?_, ?_, ?_, ?_, ?_, rfl⟩
       all_goals (simp only [go_sem, *]; try rfl)
     ·rw [if_neg hd16] at hd
      have d4 : decide ((16 : Int) ≤ (d : Int)) = true := by simp; omega
      rw [Hnone.out hd] at h
      clear hd hd16
      cases q1 : decide ((48 : Int) ≤ (b.toNat : Int)) <;> cases q2 : decide ((b.toNat : Int) ≤ 57) <;> cases q3 : ((b.toNat : Int) == 95) <;> simp only [q1, q2] at hnd <;> try (exfalso; cases hnd; done)
      all_goals clear hnd
      all_goals
       repeat' first | refine st ?_ | (refine ca ?_; first | apply hlw) | (refine br ?_ ?_; all_goals (intro hb; try simp only [bnn] at hb)) | fail
       (apply f_ret; iterate 7 (· simp only [go_sem, *, Tryz.results293]; try rfl))
       exact h
    ·have hd : hexD1 b = none := by
      rw [hdv]; unfold dv; rw [if_neg c1, if_neg c2]; rfl
     rw [Hnone.out hd] at h
     have hle : (decide ((97 : Int) ≤ (lowN b : Int)) && decide ((lowN b : Int) ≤ 122)) = false := by
      rw [Bool.and_eq_false_iff]; simp; omega
     clear hd hdv c1 c2
     cases q1 : decide ((48 : Int) ≤ (b.toNat : Int)) <;> cases q2 : decide ((b.toNat : Int) ≤ 57) <;> cases q3 : ((b.toNat : Int) == 95) <;> simp only [q1, q2] at hnd <;> try (exfalso; cases hnd; done)
     all_goals clear hnd
     all_goals
      cases q4 : decide ((97 : Int) ≤ (lowN b : Int)) <;> cases q5 : decide ((lowN b : Int) ≤ 122) <;> simp only [q4, q5] at hle <;> try (exfalso; cases hle; done)
     all_goals clear hle
     all_goals
      repeat' first | refine st ?_ | (refine ca ?_; first | apply hlw) | (refine br ?_ ?_; all_goals (intro hb; try simp only [bnn] at hb)) | fail
      (apply f_ret; iterate 7 (· simp only [go_sem, *, Tryz.results293]; try rfl))
      exact h
  ·simp only at ha
   rw [ha] at h
   clear ha
   repeat' first | refine st ?_ | (refine br ?_ ?_; all_goals (intro hb; try simp only [bnn] at hb)) | fail
   (apply f_ret; iterate 7 (· simp only [go_sem, *, Tryz.results293]; try rfl))
   exact h
def Syn (w0 : World) : Prop := ∃ ev, w0.cell? ⟨6, 0, none⟩ = some ev ∧ (ev = .nilIface ∨ ∃ te pe, ev = .iface te pe)
theorem toErr (w0 : World) (hS : Syn w0) (S : List Blk) (s : List UInt8) (hs : s.length ≤ 1000) (R : Rt) (h : ∀ v : Value, R (.ret (.ifc 302 (.val v))) S) :
  ACall Tryz.prog w0 247 [.str [80, 97, 114, 115, 101, 85, 105, 110, 116], .str s, .int .i64 16, .int .i64 8, synV] S R := by
 refine ACall.libR (vs := [.string ⟨#[80, 97, 114, 115, 101, 85, 105, 110, 116]⟩, .string ⟨s.toArray⟩, .int .i64 16, .int .i64 8, .iface 299 (.int .i64 2)]) (Go.Proofs.enters_of Tryz.func247 (by kernel_rfl) rfl) rfl ?_
 intro w hb
 obtain ⟨ev, hv, hev⟩ := hS
 refine (Go.Proofs.Any.strconv_toError_syntax Go.Proofs.Tryz.laysC245 ⟨#[80, 97, 114, 115, 101, 85, 105, 110, 116]⟩ ⟨s.toArray⟩ 16 8 ev w ?_ ?_ hev).mono ?_
 ·show s.toArray.size ≤ _
  simp; omega
 ·exact (hb.cell (World.block_lt_of_cell? _ _ hv)).trans hv
 ·rintro e w' ⟨N, rfl, hN, hc, hbw⟩
  exact ⟨_, rfl, hbw, .ifc 302 (.val (.pointer (some ⟨N, 0, none⟩))), fun ι ψ => .ifc _ _ _ (.val _ rfl), h _⟩
set_option maxHeartbeats 4000000 in
theorem parseUint (w0 : World) (hS : Syn w0) : PU16 w0 := by
 intro S b1 b2 R h1 h2
 have hte := fun S' => toErr w0 hS S' [b1, b2] (by simp)
 cases hh : hexV b1 b2 with
 | some v =>
  have hpu := fun S' (R : Rt) (h : R (.ret (.tup [.int .u64 v, .inil])) S') => puIn w0 S' b1 b2 R (by rw [hh]; exact h)
  have h := h1 v hh
  clear hte h1 h2 hh
  refine en Tryz.func250 rfl Tryz.ntmps250 fun hO => ?_
  repeat' first | refine st ?_ | (refine ca ?_; first | apply hpu) | (refine br ?_ ?_; all_goals (intro hb; try simp only [bnn] at hb)) | fail
  (apply f_ret; iterate 7 (· simp only [go_sem, *, Tryz.results250]; try rfl))
  exact h
 | none =>
  have hpu := fun S' (R : Rt) (h : R (.ret (.tup [.int .u64 0, synV])) S') => puIn w0 S' b1 b2 R (by rw [hh]; exact h)
  have h := h2 hh
  clear h1 h2 hh
  unfold synV at hpu hte
  refine en Tryz.func250 rfl Tryz.ntmps250 fun hO => ?_
  repeat' first | refine st ?_ | (refine ca ?_; first | apply hpu | apply hte) | (refine br ?_ ?_; all_goals (intro hb; try simp only [bnn] at hb)) | fail
  intro v
  repeat' first | refine st ?_ | (refine br ?_ ?_; all_goals (intro hb; try simp only [bnn] at hb)) | fail
  (apply f_ret; iterate 7 (· simp only [go_sem, *, Tryz.results250]; try rfl))
  exact h _ _
def rngV : AV := .ifc 299 (.int .i64 1)
theorem byte_at {s : List UInt8} {i : Nat} {b : UInt8} (h : s[i]? = some b) : (s.map byteAV)[i]? = some (.int .u8 (b.toNat : Int)) := by rw [List.getElem?_map, h]; rfl
theorem puX0 (w0 : World) (S : List Blk) (R : Rt) (h2 : R (.ret (.tup [.int .u64 0, synV])) S) : ACall Tryz.prog w0 293 [.str [], .int .i64 16, .int .i64 8] S R := by
 unfold synV at h2
 refine en Tryz.func293 rfl Tryz.ntmps293 fun hO => ?_
 repeat' first | refine st ?_ | (refine br ?_ ?_; all_goals (intro hb; try simp only [bnn] at hb)) | fail
 (apply f_ret; iterate 7 (· simp only [go_sem, *, Tryz.results293]; try rfl))
 exact h2
set_option maxHeartbeats 8000000 in
theorem puX (w0 : World) (S : List Blk) (s : List UInt8) (hne : s ≠ []) (hs : s.length ≤ 100000) (R : Rt) (h1 : ∀ v : Nat, R (.ret (.tup [.int .u64 v, .inil])) S) (h2 : R (.ret (.tup [.int .u64 0, synV])) S) (h3 : R (.ret (.tup [.int .u64 255, rngV])) S) :
  ACall Tryz.prog w0 293 [.str s, .int .i64 16, .int .i64 8] S R := by
 have hn0 : (s == []) = false := by simpa using hne
 have Hs := Lib.hid hs
 clear hne hs
 unfold synV at h2
 unfold rngV at h3
 have H1 := Lib.hid h1
 have H2 := Lib.hid h2
 have H3 := Lib.hid h3
 clear h1 h2 h3
 refine en Tryz.func293 rfl Tryz.ntmps293 fun hO => ?_
 repeat' first | refine st ?_ | (refine br ?_ ?_; all_goals (intro hb; try simp only [bnn] at hb)) | fail
 apply x_bytes
 ·(simp only [go_sem, *]; try rfl)
 ·rfl
 ·(simp only [go_sem, *]; try rfl)
 ·(simp only [go_sem, *]; try rfl)
 ·(simp only [go_sem, *]; try rfl)
 ·(simp only [go_sem, *]; try rfl)
 ·rfl
 simp only [putA]
 repeat' first | refine st ?_ | (refine br ?_ ?_; all_goals (intro hb; try simp only [bnn] at hb)) | fail
 have hffw : IntKind.u64.wrap (IntKind.u64.wrap (1 * 2 ^ min (IntKind.u64.wrap 8).toNat 64) - 1) = 255 := by decide +kernel
 have hlm : (s.map byteAV).length = s.length := List.length_map _
 refine x_ind (fun (p : Nat × Nat) env S' => p.1 ≤ s.length ∧ p.2 ≤ 255 ∧ env 1000000 = .dfr [] ∧ env 1 = .int .i64 16 ∧ env 8 = .bool false ∧ env 9 = .str s ∧ env 10 = .int .u64 1152921504606846976 ∧ env 11 = .int .u64 255 ∧ env 12 = .bool false ∧ env 13 = .int .u64 p.2 ∧
  env 99 = .sval false (s.map byteAV) ∧ env 100 = .int .i64 s.length ∧ env 101 = .int .i64 p.1 ∧ S' = S) (fun p => s.length - p.1) (0, 0) ?_ ?_
 ·exact ⟨Nat.zero_le _, by omega, by (simp only [go_sem, *]; try rfl), by (simp only [go_sem, *]; try rfl), by (simp only [go_sem, *]; try rfl), by (simp only [go_sem, *]; try rfl), by (simp only [go_sem, *]; try rfl), by (simp only [go_sem, *]; try rfl), by (simp only [go_sem, *]; try rfl), by (simp only [go_sem, *]; try rfl), by (simp only [go_sem, *]; try rfl), by (simp only [go_sem, *]; try rfl), by (simp only [go_sem, *]; try rfl), rfl⟩
 ·rintro ⟨i, acc⟩ env S' ⟨hi, hacc, e0, f1, f8, f9, f10, f11, f12, f13, f99, f100, f101, rfl⟩ IH
  have HI := Lib.hid IH
  have hw16 : IntKind.u8.wrap 16 = 16 := by decide
  have hw16' : IntKind.u64.wrap 16 = 16 := by decide
  have hlw := lower2 w0
  clear IH hffw hlm
  simp only at f13 f101 hi hacc
  have hs := Hs.out
  by_cases hlt : i < s.length
  ·obtain ⟨b, hx⟩ : ∃ b, s[i]? = some b := ⟨_, List.getElem?_eq_getElem hlt⟩
   have hb := byte_at hx
   clear hx
   have h1 : decide ((i : Int) < (s.length : Int)) = true := by simpa using hlt
   have hwi : IntKind.i64.wrap ((i : Int) + 1) = ((i + 1 : Nat) : Int) := by rw [IntWalk.i64_in _ (by omega)]; rfl
   have Hlt := Lib.hid hlt
   have d5 : decide ((1152921504606846976 : Int) ≤ (acc : Int)) = false := by simp; omega
   have w5 : IntKind.u64.wrap ((acc : Int) * 16) = ((acc * 16 : Nat) : Int) := by rw [IntWalk.u64_in _ (by omega)]; omega
   have key : ∀ d : Nat, d < 16 → IntKind.u64.wrap (d : Int) = (d : Int) ∧ IntKind.u64.wrap (((acc * 16 : Nat) : Int) + (d : Int)) = ((acc * 16 + d : Nat) : Int) ∧ decide (((acc * 16 + d : Nat) : Int) < ((acc * 16 : Nat) : Int)) = false := by
    intro d hd
    refine ⟨IntWalk.u64_in _ (by omega), by rw [IntWalk.u64_in _ (by omega)]; omega, by simp; omega⟩
   clear hlt hacc hi hs
   have Key := Lib.hid key
   clear key
   generalize s.map byteAV = B at *
   by_cases c1 : 48 ≤ b.toNat ∧ b.toNat ≤ 57
   ·have d1 : decide ((48 : Int) ≤ (b.toNat : Int)) = true := by simp; omega
    have d2 : decide ((b.toNat : Int) ≤ 57) = true := by simp; omega
    have d3 : ((b.toNat : Int) == 95) = false := by simp; omega
    have w1 : IntKind.u8.wrap ((b.toNat : Int) - 48) = ((b.toNat - 48 : Nat) : Int) := by rw [IntWalk.u8_in _ (by omega)]; omega
    have hd16 : b.toNat - 48 < 16 := by omega
    have d4 : decide ((16 : Int) ≤ ((b.toNat - 48 : Nat) : Int)) = false := by simp; omega
    clear c1
    generalize hdd : b.toNat - 48 = d at *
    obtain ⟨k1, k2, k3⟩ := Key.out d hd16
    clear hdd hd16
    by_cases hm : acc * 16 + d ≤ 255
    ·have k4 : decide ((255 : Int) < ((acc * 16 + d : Nat) : Int)) = false := by simp; omega
     have Hm := Lib.hid hm
     clear hm
     repeat' first | refine st ?_ | (refine ca ?_; first | apply hlw) | (refine br ?_ ?_; all_goals (intro hb; try simp only [bnn] at hb)) | fail
     refine HI.out (i + 1, acc * 16 + d) _ _ (by have := Hlt.out; simp only; omega) ⟨Hlt.out, Hm.out, ?_, ?_, ?_, ?_, ?_, ?_, ?_, ?_, ?_, ?_, ?_, rfl⟩
     all_goals (simp only [go_sem, *]; try rfl)
    ·have k4 : decide ((255 : Int) < ((acc * 16 + d : Nat) : Int)) = true := by simp; omega
     have h3 := H3.out
     clear hm
     repeat' first | refine st ?_ | (refine ca ?_; first | apply hlw) | (refine br ?_ ?_; all_goals (intro hb; try simp only [bnn] at hb)) | fail
     (apply f_ret; iterate 7 (· simp only [go_sem, *, Tryz.results293]; try rfl))
     exact h3
   ·have hnd : (decide ((48 : Int) ≤ (b.toNat : Int)) && decide ((b.toNat : Int) ≤ 57)) = false := by
     rw [Bool.and_eq_false_iff]; simp; omega
    by_cases c2 : 97 ≤ lowN b ∧ lowN b ≤ 122
    ·have e1 : decide ((97 : Int) ≤ (lowN b : Int)) = true := by simp; omega
     have e2 : decide ((lowN b : Int) ≤ 122) = true := by simp; omega
     have w1 : IntKind.u8.wrap ((lowN b : Int) - 97) = ((lowN b - 97 : Nat) : Int) := by rw [IntWalk.u8_in _ (by omega)]; omega
     have w2 : IntKind.u8.wrap (((lowN b - 97 : Nat) : Int) + 10) = ((lowN b - 87 : Nat) : Int) := by rw [IntWalk.u8_in _ (by omega)]; omega
     clear c1 c2
     generalize lowN b - 87 = d at *
     generalize lowN b - 97 = e at *
     by_cases hd16 : d < 16
     ·have d4 : decide ((16 : Int) ≤ (d : Int)) = false := by simp; omega
      obtain ⟨k1, k2, k3⟩ := Key.out d hd16
      clear hd16
      cases q1 : decide ((48 : Int) ≤ (b.toNat : Int)) <;> cases q2 : decide ((b.toNat : Int) ≤ 57) <;> cases q3 : ((b.toNat : Int) == 95) <;> simp only [q1, q2] at hnd <;> try (exfalso; cases hnd; done)
      all_goals clear hnd
      all_goals
       by_cases hm : acc * 16 + d ≤ 255
       ·have k4 : decide ((255 : Int) < ((acc * 16 + d : Nat) : Int)) = false := by simp; omega
        have Hm := Lib.hid hm
        clear hm
        repeat' first | refine st ?_ | (refine ca ?_; first | apply hlw) | (refine br ?_ ?_; all_goals (intro hb; try simp only [bnn] at hb)) | fail
        refine HI.out (i + 1, acc * 16 + d) _ _ (by have := Hlt.out; simp only; omega) ⟨Hlt.out, Hm.out, ?_, ?_, ?_, ?_, ?_, ?_, ?_, ?_, ?_, ?_, ?_, rfl⟩
        all_goals (simp only [go_sem, *]; try rfl)
       ·have k4 : decide ((255 : Int) < ((acc * 16 + d : Nat) : Int)) = true := by simp; omega
        have h3 := H3.out
        clear hm
        repeat' first | refine st ?_ | (refine ca ?_; first | apply hlw) | (refine br ?_ ?_; all_goals (intro hb; try simp only [bnn] at hb)) | fail
        (apply f_ret; iterate 7 (· simp only [go_sem, *, Tryz.results293]; try rfl))
        exact h3
     ·have d4 : decide ((16 : Int) ≤ (d : Int)) = true := by simp; omega
      have h2 := H2.out
      clear hd16
      cases q1 : decide ((48 : Int) ≤ (b.toNat : Int)) <;> cases q2 : decide ((b.toNat : Int) ≤ 57) <;> cases q3 : ((b.toNat : Int) == 95) <;> simp only [q1, q2] at hnd <;> try (exfalso; cases hnd; done)
      all_goals clear hnd
      all_goals
       repeat' first | refine st ?_ | (refine ca ?_; first | apply hlw) | (refine br ?_ ?_; all_goals (intro hb; try simp only [bnn] at hb)) | fail
       (apply f_ret; iterate 7 (· simp only [go_sem, *, Tryz.results293]; try rfl))
       exact h2
    ·have hle : (decide ((97 : Int) ≤ (lowN b : Int)) && decide ((lowN b : Int) ≤ 122)) = false := by
      rw [Bool.and_eq_false_iff]; simp; omega
     have h2 := H2.out
     clear c1 c2
     cases q1 : decide ((48 : Int) ≤ (b.toNat : Int)) <;> cases q2 : decide ((b.toNat : Int) ≤ 57) <;> cases q3 : ((b.toNat : Int) == 95) <;> simp only [q1, q2] at hnd <;> try (exfalso; cases hnd; done)
     all_goals clear hnd
     all_goals
      cases q4 : decide ((97 : Int) ≤ (lowN b : Int)) <;> cases q5 : decide ((lowN b : Int) ≤ 122) <;> simp only [q4, q5] at hle <;> try (exfalso; cases hle; done)
     all_goals clear hle
     all_goals
      repeat' first | refine st ?_ | (refine ca ?_; first | apply hlw) | (refine br ?_ ?_; all_goals (intro hb; try simp only [bnn] at hb)) | fail
      (apply f_ret; iterate 7 (· simp only [go_sem, *, Tryz.results293]; try rfl))
      exact h2
  ·have hil : i = s.length := by omega
   subst hil
   have h1 : decide ((s.length : Int) < (s.length : Int)) = false := by simp
   have hh := H1.out acc
   clear hlt hi hacc hs
   repeat' first | refine st ?_ | (refine br ?_ ?_; all_goals (intro hb; try simp only [bnn] at hb)) | fail
   (apply f_ret; iterate 7 (· simp only [go_sem, *, Tryz.results293]; try rfl))
   exact hh
def Rng (w0 : World) : Prop := ∃ ev, w0.cell? ⟨7, 0, none⟩ = some ev ∧ (ev = .nilIface ∨ ∃ te pe, ev = .iface te pe)
theorem toErrR (w0 : World) (hS : Rng w0) (S : List Blk) (s : List UInt8) (hs : s.length ≤ 100000) (R : Rt) (h : ∀ v : Value, R (.ret (.ifc 302 (.val v))) S) :
  ACall Tryz.prog w0 247 [.str [80, 97, 114, 115, 101, 85, 105, 110, 116], .str s, .int .i64 16, .int .i64 8, rngV] S R := by
 refine ACall.libR (vs := [.string ⟨#[80, 97, 114, 115, 101, 85, 105, 110, 116]⟩, .string ⟨s.toArray⟩, .int .i64 16, .int .i64 8, .iface 299 (.int .i64 1)]) (Go.Proofs.enters_of Tryz.func247 (by kernel_rfl) rfl) rfl ?_
 intro w hb
 obtain ⟨ev, hv, hev⟩ := hS
 refine (Go.Proofs.Any.strconv_toError_range Go.Proofs.Tryz.laysC245 ⟨#[80, 97, 114, 115, 101, 85, 105, 110, 116]⟩ ⟨s.toArray⟩ 16 8 ev w ?_ ?_ hev).mono ?_
 ·show s.toArray.size ≤ _
  simp; omega
 ·exact (hb.cell (World.block_lt_of_cell? _ _ hv)).trans hv
 ·rintro e w' ⟨N, rfl, hN, hc, hbw⟩
  exact ⟨_, rfl, hbw, .ifc 302 (.val (.pointer (some ⟨N, 0, none⟩))), fun ι ψ => .ifc _ _ _ (.val _ rfl), h _⟩
theorem toErrS (w0 : World) (hS : Syn w0) (S : List Blk) (s : List UInt8) (hs : s.length ≤ 100000) (R : Rt) (h : ∀ v : Value, R (.ret (.ifc 302 (.val v))) S) :
  ACall Tryz.prog w0 247 [.str [80, 97, 114, 115, 101, 85, 105, 110, 116], .str s, .int .i64 16, .int .i64 8, synV] S R := by
 refine ACall.libR (vs := [.string ⟨#[80, 97, 114, 115, 101, 85, 105, 110, 116]⟩, .string ⟨s.toArray⟩, .int .i64 16, .int .i64 8, .iface 299 (.int .i64 2)]) (Go.Proofs.enters_of Tryz.func247 (by kernel_rfl) rfl) rfl ?_
 intro w hb
 obtain ⟨ev, hv, hev⟩ := hS
 refine (Go.Proofs.Any.strconv_toError_syntax Go.Proofs.Tryz.laysC245 ⟨#[80, 97, 114, 115, 101, 85, 105, 110, 116]⟩ ⟨s.toArray⟩ 16 8 ev w ?_ ?_ hev).mono ?_
 ·show s.toArray.size ≤ _
  simp; omega
 ·exact (hb.cell (World.block_lt_of_cell? _ _ hv)).trans hv
 ·rintro e w' ⟨N, rfl, hN, hc, hbw⟩
  exact ⟨_, rfl, hbw, .ifc 302 (.val (.pointer (some ⟨N, 0, none⟩))), fun ι ψ => .ifc _ _ _ (.val _ rfl), h _⟩
theorem pU2 (w0 : World) (hS : Syn w0) (S : List Blk) (a b : UInt8) (v : Nat) (hv : hexV a b = some v) (R : Rt) (h : R (.ret (.tup [.int .u64 v, .inil])) S) : ACall Tryz.prog w0 250 [.str [a, b], .int .i64 16, .int .i64 8] S R :=
 parseUint w0 hS S a b R (fun v' hv' => by rw [hv] at hv'; cases hv'; exact h) (fun e => by rw [hv] at e; cases e)
theorem pU2F (w0 : World) (hS : Syn w0) (S : List Blk) (a b : UInt8) (hv : hexV a b = none) (R : Rt) (h : ∀ t x, R (.ret (.tup [.int .u64 0, .ifc t x])) S) : ACall Tryz.prog w0 250 [.str [a, b], .int .i64 16, .int .i64 8] S R :=
 parseUint w0 hS S a b R (fun v' hv' => by rw [hv] at hv'; cases hv') (fun _ => h)
set_option maxHeartbeats 2000000 in
theorem pUX (w0 : World) (hS : Syn w0) (hG : Rng w0) (S : List Blk) (s : List UInt8) (hs : s.length ≤ 100000) (R : Rt) (h1 : ∀ v : Nat, R (.ret (.tup [.int .u64 v, .inil])) S) (h2 : ∀ (v : Nat) t x, R (.ret (.tup [.int .u64 v, .ifc t x])) S) : ACall Tryz.prog w0 250 [.str s, .int .i64 16, .int .i64 8] S R := by
 have heS := fun S' => toErrS w0 hS S' s hs
 have heR := fun S' => toErrR w0 hG S' s hs
 have hc0 : ((0 : Nat) : Int) = 0 := rfl
 have h20 : ∀ t x, R (.ret (.tup [.int .u64 0, .ifc t x])) S := h2 0
 have h21 : ∀ t x, R (.ret (.tup [.int .u64 255, .ifc t x])) S := h2 255
 unfold synV at heS
 unfold rngV at heR
 by_cases hn : s = []
 ·subst hn
  have hp := puX0 w0
  unfold synV at hp
  clear hS hG h1 h2 h21 heR
  refine en Tryz.func250 rfl Tryz.ntmps250 fun hO => ?_
  repeat' first | refine st ?_ | (refine ca ?_; first | apply hp | apply heS) | (refine br ?_ ?_; all_goals (intro hb; try simp only [bnn] at hb)) | fail
  intro v
  repeat' first | refine st ?_ | (refine br ?_ ?_; all_goals (intro hb; try simp only [bnn] at hb)) | fail
  (apply f_ret; iterate 7 (· simp only [go_sem, *, Tryz.results250]; try rfl))
  exact h20 _ _
 ·have hp := fun S' => puX w0 S' s hn hs
  unfold synV rngV at hp
  clear hS hG h2 hs hn
  refine en Tryz.func250 rfl Tryz.ntmps250 fun hO => ?_
  repeat' first | refine st ?_ | (refine ca ?_; first | apply hp) | (refine br ?_ ?_; all_goals (intro hb; try simp only [bnn] at hb)) | fail
  ·intro v
   repeat' first | refine st ?_ | (refine br ?_ ?_; all_goals (intro hb; try simp only [bnn] at hb)) | fail
   (apply f_ret; iterate 7 (· simp only [go_sem, *, Tryz.results250]; try rfl))
   exact h1 _
  ·repeat' first | refine st ?_ | (refine ca ?_; first | apply heS) | (refine br ?_ ?_; all_goals (intro hb; try simp only [bnn] at hb)) | fail
   intro v
   repeat' first | refine st ?_ | (refine br ?_ ?_; all_goals (intro hb; try simp only [bnn] at hb)) | fail
   (apply f_ret; iterate 7 (· simp only [go_sem, *, Tryz.results250]; try rfl))
   exact h20 _ _
  ·repeat' first | refine st ?_ | (refine ca ?_; first | apply heR) | (refine br ?_ ?_; all_goals (intro hb; try simp only [bnn] at hb)) | fail
   intro v
   repeat' first | refine st ?_ | (refine br ?_ ?_; all_goals (intro hb; try simp only [bnn] at hb)) | fail
   (apply f_ret; iterate 7 (· simp only [go_sem, *, Tryz.results250]; try rfl))
   exact h21 _ _
theorem oSplit (w0 : World) (S : List Blk) (s : List UInt8) (hs : s.length ≤ 100000) (R : Rt) (h : ∀ b, R (.ret (.sval b ((splL s).map AV.str))) S) : ACall Tryz.prog w0 249 [.str s, .str [47]] S R := by
 have hg := fun S' => gSplit w0 S' s hs
 have hlt : ltL S.length ((splL s).map AV.str) = true := ltL_iff.2 fun x hx => by obtain ⟨y, _, rfl⟩ := List.mem_map.1 hx; rfl
 have hpl : plainL ((splL s).map AV.str) = true := by
  have := seq_plain (splL s) 0
  simpa [seqE] using this
 generalize (splL s).map AV.str = F at h hg hlt hpl
 clear hs
 refine en Tryz.func249 rfl Tryz.ntmps249 fun hO => ?_
 repeat' first | refine st ?_ | (refine ca ?_; first | apply hg) | (refine br ?_ ?_; all_goals (intro hb; try simp only [bnn] at hb)) | fail
 intro b
 cases b
 all_goals
  repeat' first | refine st ?_ | (refine br ?_ ?_; all_goals (intro hb; try simp only [bnn] at hb)) | fail
  (apply f_ret; iterate 7 (· simp only [go_sem, *, Tryz.results249]; try rfl))
  exact h _
def pfxB (s : List UInt8) : Bool := decide (4 ≤ s.length) && (s.take 4 == [114, 103, 98, 58])
theorem hasPfx (w0 : World) (S : List Blk) (s : List UInt8) (R : Rt) (h : R (.ret (.bool (pfxB s))) S) : ACall Tryz.prog w0 274 [.str s, .str [114, 103, 98, 58]] S R := by
 unfold pfxB at h
 by_cases hl : 4 ≤ s.length
 ·have d1 : decide ((4 : Int) ≤ (s.length : Int)) = true := by simp; omega
  have hk : ((4 : Nat) : Int) ≤ (s.length : Int) := by omega
  have hk2 : (4 : Int) ≤ (s.length : Int) := by omega
  have hc4 : ((4 : Nat) : Int) = 4 := rfl
  have d2 : decide (((4 : Nat) : Int) ≤ (s.length : Int)) = true := by simp; omega
  rw [decide_eq_true hl, Bool.true_and] at h
  clear hl
  refine en Tryz.func274 rfl Tryz.ntmps274 fun hO => ?_
  repeat' first | refine st ?_ | (refine br ?_ ?_; all_goals (intro hb; try simp only [bnn] at hb)) | fail
  (apply f_ret; iterate 7 (· simp only [go_sem, *, Tryz.results274]; try rfl))
  exact h
 ·have d1 : decide ((4 : Int) ≤ (s.length : Int)) = false := by simp; omega
  have d2 : decide (((4 : Nat) : Int) ≤ (s.length : Int)) = false := by simp; omega
  rw [decide_eq_false hl, Bool.false_and] at h
  clear hl
  refine en Tryz.func274 rfl Tryz.ntmps274 fun hO => ?_
  repeat' first | refine st ?_ | (refine br ?_ ?_; all_goals (intro hb; try simp only [bnn] at hb)) | fail
  (apply f_ret; iterate 7 (· simp only [go_sem, *, Tryz.results274]; try rfl))
  exact h
def cutPV (s : List UInt8) : AV := if pfxB s then .tup [.str (s.drop 4), .bool true] else .tup [.str s, .bool false]
theorem cutP0 (w0 : World) (S : List Blk) (s : List UInt8) (R : Rt) (h : R (.ret (cutPV s)) S) : ACall Tryz.prog w0 291 [.str s, .str [114, 103, 98, 58]] S R := by
 have hp := fun S' => hasPfx w0 S' s
 unfold cutPV at h
 cases hb : pfxB s with
 | false =>
  rw [hb] at h hp
  have h : R (.ret (.tup [.str s, .bool false])) S := h
  clear hb
  refine en Tryz.func291 rfl Tryz.ntmps291 fun hO => ?_
  repeat' first | refine st ?_ | (refine ca ?_; first | apply hp) | (refine br ?_ ?_; all_goals (intro hb; try simp only [bnn] at hb)) | fail
  (apply f_ret; iterate 7 (· simp only [go_sem, *, Tryz.results291]; try rfl))
  exact h
 | true =>
  have hl : 4 ≤ s.length := by unfold pfxB at hb; simp at hb; exact hb.1
  have hk : ((4 : Nat) : Int) ≤ (s.length : Int) := by omega
  have hts : List.take s.length s = s := List.take_length
  rw [hb] at h hp
  have h : R (.ret (.tup [.str (s.drop 4), .bool true])) S := h
  clear hb hl
  refine en Tryz.func291 rfl Tryz.ntmps291 fun hO => ?_
  repeat' first | refine st ?_ | (refine ca ?_; first | apply hp) | (refine br ?_ ?_; all_goals (intro hb; try simp only [bnn] at hb)) | fail
  (apply f_ret; iterate 7 (· simp only [go_sem, *, Tryz.results291]; try rfl))
  exact h
theorem cutP (w0 : World) (S : List Blk) (s : List UInt8) (R : Rt) (h : R (.ret (cutPV s)) S) : ACall Tryz.prog w0 248 [.str s, .str [114, 103, 98, 58]] S R := by
 have hp := fun S' => cutP0 w0 S' s
 unfold cutPV at h hp
 cases hb : pfxB s with
 | false =>
  rw [hb] at h hp
  have h : R (.ret (.tup [.str s, .bool false])) S := h
  have hp : ∀ S' (R : Rt), R (.ret (.tup [.str s, .bool false])) S' → ACall Tryz.prog w0 291 [.str s, .str [114, 103, 98, 58]] S' R := hp
  clear hb
  refine en Tryz.func248 rfl Tryz.ntmps248 fun hO => ?_
  repeat' first | refine st ?_ | (refine ca ?_; first | apply hp) | (refine br ?_ ?_; all_goals (intro hb; try simp only [bnn] at hb)) | fail
  (apply f_ret; iterate 7 (· simp only [go_sem, *, Tryz.results248]; try rfl))
  exact h
 | true =>
  rw [hb] at h hp
  have h : R (.ret (.tup [.str (s.drop 4), .bool true])) S := h
  have hp : ∀ S' (R : Rt), R (.ret (.tup [.str (s.drop 4), .bool true])) S' → ACall Tryz.prog w0 291 [.str s, .str [114, 103, 98, 58]] S' R := hp
  clear hb
  generalize s.drop 4 = d at h hp
  refine en Tryz.func248 rfl Tryz.ntmps248 fun hO => ?_
  repeat' first | refine st ?_ | (refine ca ?_; first | apply hp) | (refine br ?_ ?_; all_goals (intro hb; try simp only [bnn] at hb)) | fail
  (apply f_ret; iterate 7 (· simp only [go_sem, *, Tryz.results248]; try rfl))
  exact h
def hx2 : List UInt8 → Option Nat
 | [a, b] => hexV a b
 | _ => none
def accP : Nat → List (List UInt8) → Option Nat
 | n, [] => some n
 | n, p :: ps => match hx2 p with | some k => accP (n * 256 + k) ps | none => none
def joinL : List (List UInt8) → List UInt8
 | [] => []
 | [w] => w
 | w :: ws => w ++ 47 :: joinL ws
theorem spl_join : ∀ s, joinL (splL s) = s
 | [] => rfl
 | b :: r => by
  have ih := spl_join r
  unfold splL
  split
  ·next h =>
   subst h
   cases hs : splL r with
   | nil => exact absurd hs (spl_ne r)
   | cons w ws => rw [hs] at ih; simp [joinL, ih]
  ·split
   ·next e => exact absurd e (spl_ne r)
   ·next w ws e =>
    rw [e] at ih
    cases ws with
    | nil => simp only [joinL] at ih ⊢; rw [ih]
    | cons w2 ws => simp only [joinL, List.cons_append] at ih ⊢; rw [ih]
theorem hexD_ne {b : UInt8} {x : Nat} (h : hexD1 b = some x) : b ≠ 47 ∧ b ≠ 43 ∧ b ≠ 95 := by
 have : ∀ n : Nat, n < 256 → (hexD1 (UInt8.ofNat n)).isSome = true → UInt8.ofNat n ≠ 47 ∧ UInt8.ofNat n ≠ 43 ∧ UInt8.ofNat n ≠ 95 := by decide +kernel
 have h2 := this b.toNat b.toNat_lt
 rw [UInt8.ofNat_toNat] at h2
 exact h2 (by rw [h]; rfl)
theorem hexV_ne {a b : UInt8} {x : Nat} (h : hexV a b = some x) : (a ≠ 47 ∧ a ≠ 43 ∧ a ≠ 95) ∧ (b ≠ 47 ∧ b ≠ 43 ∧ b ≠ 95) := by
 unfold hexV at h
 cases h1 : hexD1 a with
 | none => rw [h1] at h; simp at h
 | some u =>
  cases h2 : hexD1 b with
  | none => rw [h1, h2] at h; simp at h
  | some v => exact ⟨hexD_ne h1, hexD_ne h2⟩
theorem spl_three {a b c d e f : UInt8} (ha : a ≠ 47) (hb : b ≠ 47) (hc : c ≠ 47) (hd : d ≠ 47) (he : e ≠ 47) (hf : f ≠ 47) : splL [a, b, 47, c, d, 47, e, f] = [[a, b], [c, d], [e, f]] := by
 simp [splL, ha, hb, hc, hd, he, hf]
theorem col_some {s : List UInt8} {n : Nat} (h : colP s = some n) : pfxB s = true ∧ ∃ p q r, splL (s.drop 4) = [p, q, r] ∧ accP 0 [p, q, r] = some n := by
 unfold colP at h
 split at h
 ·next p0 p1 p2 p3 a b q c d r e f =>
  split at h
  ·next hp =>
   obtain ⟨rfl, rfl, rfl, rfl, rfl, rfl⟩ := hp
   split at h
   ·next x y z hx hy hz =>
    cases h
    refine ⟨rfl, [a, b], [c, d], [e, f], ?_, ?_⟩
    ·exact spl_three (hexV_ne hx).1.1 (hexV_ne hx).2.1 (hexV_ne hy).1.1 (hexV_ne hy).2.1 (hexV_ne hz).1.1 (hexV_ne hz).2.1
    ·simp only [accP, hx2, hx, hy, hz]
     congr 1
     omega
   ·cases h
  ·cases h
 ·cases h
theorem hx2_some {p : List UInt8} {k : Nat} (h : hx2 p = some k) : ∃ a b, p = [a, b] ∧ hexV a b = some k := by
 unfold hx2 at h
 split at h
 ·exact ⟨_, _, rfl, h⟩
 ·cases h
theorem acc_three {p q r : List UInt8} {n : Nat} (h : accP 0 [p, q, r] = some n) : ∃ a b c d e f x y z, p = [a, b] ∧ q = [c, d] ∧ r = [e, f] ∧ hexV a b = some x ∧ hexV c d = some y ∧ hexV e f = some z ∧ n = x * 65536 + y * 256 + z := by
 simp only [accP] at h
 cases h1 : hx2 p with
 | none => rw [h1] at h; cases h
 | some x =>
  cases h2 : hx2 q with
  | none => rw [h1, h2] at h; cases h
  | some y =>
   cases h3 : hx2 r with
   | none => rw [h1, h2, h3] at h; cases h
   | some z =>
    rw [h1, h2, h3] at h
    simp only [Option.some.injEq] at h
    obtain ⟨a, b, rfl, e1⟩ := hx2_some h1
    obtain ⟨c, d, rfl, e2⟩ := hx2_some h2
    obtain ⟨e, f, rfl, e3⟩ := hx2_some h3
    exact ⟨a, b, c, d, e, f, x, y, z, rfl, rfl, rfl, e1, e2, e3, by omega⟩
theorem col_of {s p q r : List UInt8} {n : Nat} (hp : pfxB s = true) (hs : splL (s.drop 4) = [p, q, r]) (h : accP 0 [p, q, r] = some n) : colP s = some n := by
 obtain ⟨a, b, c, d, e, f, x, y, z, rfl, rfl, rfl, e1, e2, e3, rfl⟩ := acc_three h
 have hj := spl_join (s.drop 4)
 rw [hs] at hj
 unfold pfxB at hp
 simp at hp
 have hsp : s = [114, 103, 98, 58, a, b, 47, c, d, 47, e, f] := by
  rw [← List.take_append_drop 4 s, hp.2, ← hj]
  rfl
 rw [hsp]
 unfold colP
 simp only
 rw [if_pos (by simp), e1, e2, e3]
theorem col_none {s p q r : List UInt8} (hs : splL (s.drop 4) = [p, q, r]) (h : accP 0 [p, q, r] = none) : colP s = none := by
 cases hc : colP s with
 | none => rfl
 | some n =>
  obtain ⟨_, p', q', r', h1, h2⟩ := col_some hc
  rw [hs] at h1
  cases h1
  rw [h] at h2; cases h2
def cpV : Option Nat → AV
 | some n => .tup [.agg [.int .i64 2, .int .i64 n], .int .i64 0]
 | none => .tup [.agg [.int .i64 0, .int .i64 0], .int .i64 6]
set_option maxHeartbeats 10000000 in
theorem oColParse (w0 : World) (hS : Syn w0) (hG : Rng w0) (S : List Blk) (s : List UInt8) (hs : s.length ≤ 10000) (R : Rt) (h : R (.ret (cpV (colP s))) S) : ACall Tryz.prog w0 207 [.str s] S R := by
 have hcut := fun S' => cutP w0 S' s
 unfold cutPV at hcut
 have bad : colP s = none → R (.ret (.tup [.agg [.int .i64 0, .int .i64 0], .int .i64 6])) S := fun e => by rw [e] at h; exact h
 have good : ∀ n, colP s = some n → R (.ret (.tup [.agg [.int .i64 2, .int .i64 n], .int .i64 0])) S := fun n e => by rw [e] at h; exact h
 clear h
 cases hpx : pfxB s with
 | false =>
  have hb := bad (by cases hc : colP s with | none => rfl | some n => have := (col_some hc).1; rw [hpx] at this; cases this)
  rw [hpx] at hcut
  have hcut : ∀ S' (R : Rt), R (.ret (.tup [.str s, .bool false])) S' → ACall Tryz.prog w0 248 [.str s, .str [114, 103, 98, 58]] S' R := hcut
  have hsp := fun S' => oSplit w0 S' s (by omega)
  generalize (splL s).map AV.str = F at hsp
  clear bad good hpx hs hS hG
  refine en Tryz.func207 rfl Tryz.ntmps207 fun hO => ?_
  repeat' first | refine st ?_ | (refine ca ?_; first | apply hcut | apply hsp) | (refine br ?_ ?_; all_goals (intro hb; try simp only [bnn] at hb)) | fail
  intro b
  repeat' first | refine st ?_ | (refine br ?_ ?_; all_goals (intro hb; try simp only [bnn] at hb)) | fail
  (apply f_ret; iterate 7 (· simp only [go_sem, *, Tryz.results207]; try rfl))
  exact hb
 | true =>
 rw [hpx] at hcut
 have hcut : ∀ S' (R : Rt), R (.ret (.tup [.str (s.drop 4), .bool true])) S' → ACall Tryz.prog w0 248 [.str s, .str [114, 103, 98, 58]] S' R := hcut
 have hsp := fun S' => oSplit w0 S' (s.drop 4) (by simp; omega)
 by_cases h3 : (splL (s.drop 4)).length = 3
 case neg =>
  have hb := bad (by cases hc : colP s with | none => rfl | some n => obtain ⟨_, p, q, r, e, _⟩ := col_some hc; rw [e] at h3; exact absurd rfl h3)
  have d1 : ((((splL (s.drop 4)).map AV.str).length : Int) != 3) = true := by rw [bne_iff_ne, List.length_map]; omega
  generalize (splL (s.drop 4)).map AV.str = F at hsp d1
  generalize s.drop 4 = u at hcut hsp
  clear bad good hpx hs h3 hS hG
  refine en Tryz.func207 rfl Tryz.ntmps207 fun hO => ?_
  repeat' first | refine st ?_ | (refine ca ?_; first | apply hcut | apply hsp) | (refine br ?_ ?_; all_goals (intro hb; try simp only [bnn] at hb)) | fail
  intro b
  repeat' first | refine st ?_ | (refine br ?_ ?_; all_goals (intro hb; try simp only [bnn] at hb)) | fail
  (apply f_ret; iterate 7 (· simp only [go_sem, *, Tryz.results207]; try rfl))
  exact hb
 case pos =>
  obtain ⟨p, q, r, hL⟩ : ∃ p q r, splL (s.drop 4) = [p, q, r] := by
   match hm : splL (s.drop 4), h3 with
   | [p, q, r], _ => exact ⟨p, q, r, rfl⟩
  have good2 : ∀ n, accP 0 [p, q, r] = some n → R (.ret (.tup [.agg [.int .i64 2, .int .i64 n], .int .i64 0])) S := fun n e => good n (col_of hpx hL e)
  have bad2 : accP 0 [p, q, r] = none → R (.ret (.tup [.agg [.int .i64 0, .int .i64 0], .int .i64 6])) S := fun e => bad (col_none hL e)
  have hjl := spl_join (s.drop 4)
  rw [hL] at hsp hjl
  have hlen : ∀ x ∈ [p, q, r], x.length ≤ 100000 := by
   have hl := congrArg List.length hjl
   simp [joinL] at hl
   intro x hx
   simp only [List.mem_cons, List.not_mem_nil, or_false] at hx
   rcases hx with rfl | rfl | rfl <;> omega
  simp only [List.map_cons, List.map_nil] at hsp
  generalize s.drop 4 = u at hcut hsp
  have Good := Lib.hid good2
  have Bad := Lib.hid bad2
  have Hlen := Lib.hid hlen
  have HSS := Lib.hid hS
  have HGG := Lib.hid hG
  clear bad good good2 bad2 hpx hs h3 hL hjl hlen hS hG
  refine en Tryz.func207 rfl Tryz.ntmps207 fun hO => ?_
  repeat' first | refine st ?_ | (refine ca ?_; first | apply hcut | apply hsp) | (refine br ?_ ?_; all_goals (intro hb; try simp only [bnn] at hb)) | fail
  intro b
  repeat' first | refine st ?_ | (refine br ?_ ?_; all_goals (intro hb; try simp only [bnn] at hb)) | fail
  have hc3 : ((3 : Nat) : Int) = 3 := rfl
  refine x_ind (fun (p' : Nat × Nat × List (List UInt8)) env S' => p'.1 ≤ 3 ∧ [p, q, r].drop p'.1 = p'.2.2 ∧ p'.2.1 < 256 ^ p'.1 ∧ accP p'.2.1 p'.2.2 = accP 0 [p, q, r] ∧ env 1000000 = .dfr [] ∧ env 2 = .own S.length 0 ∧ env 7 = .int .i64 (p'.2.1 : Int) ∧ env 27 = .sval b [.str p, .str q, .str r] ∧ env 28 = .int .i64 3 ∧ env 29 = .int .i64 (p'.1 : Int) ∧
   S' = S ++ [Blk.cells [.int .i64 0, .int .i64 0]]) (fun p' => 3 - p'.1) (0, 0, [p, q, r]) ?_ ?_
  ·exact ⟨by omega, rfl, by simp, rfl, by (simp only [go_sem, *]; try rfl), by (simp only [go_sem, *]; try rfl), by (simp only [go_sem, *]; try rfl), by (simp only [go_sem, *]; try rfl), by (simp only [go_sem, *]; try rfl), by (simp only [go_sem, *]; try rfl), rfl⟩
  ·rintro ⟨k, n, rest⟩ env S' ⟨hk, hrest, hn, hacc, e0, f2, f7, f27, f28, f29, rfl⟩ IH
   simp only at hk hrest hn hacc f7 f29
   have HI := Lib.hid IH
   clear IH hcut hsp hc3
   have hp3 : 256 ^ k ≤ 256 ^ 3 := Nat.pow_le_pow_right (by omega) hk
   have hp3' : (256 : Nat) ^ 3 = 16777216 := by decide
   by_cases hlt : k < 3
   ·obtain ⟨x, rr, rfl⟩ : ∃ x rr, rest = x :: rr := by
     cases rest with
     | nil => have := congrArg List.length hrest; simp at this; omega
     | cons x rr => exact ⟨x, rr, rfl⟩
    have hx0 : [p, q, r][k]? = some x := by
     have := congrArg List.head? hrest
     simpa [List.head?_drop] using this
    have hxl := Hlen.out x (List.mem_of_getElem? hx0)
    have hx : ([AV.str p, AV.str q, AV.str r])[k]? = some (.str x) := by
     have : ([p, q, r].map AV.str)[k]? = some (.str x) := by rw [List.getElem?_map, hx0]; rfl
     exact this
    have hr2 : [p, q, r].drop (k + 1) = rr := by
     rw [← List.drop_drop, hrest]; rfl
    have h1 : decide ((k : Int) < 3) = true := by simp; omega
    have hk6 : (k : Int) < ((3 : Nat) : Int) := by omega
    have hw : IntKind.i64.wrap ((k : Int) + 1) = (k : Int) + 1 := IntWalk.i64_in _ (by omega)
    clear hx0 hrest
    cases hh2 : hx2 x with
    | some v =>
     obtain ⟨a1, b1, rfl, hv⟩ := hx2_some hh2
     have hvl := hexV_lt hv
     obtain ⟨⟨_, n1, n2⟩, _⟩ := hexV_ne hv
     have m1 : ((a1.toNat : Int) == 43) = false := by
      rw [beq_eq_false_iff_ne]
      intro e
      exact n1 (by rw [← UInt8.ofNat_toNat (x := a1), show a1.toNat = 43 by omega]; rfl)
     have m2 : ((a1.toNat : Int) == 95) = false := by
      rw [beq_eq_false_iff_ne]
      intro e
      exact n2 (by rw [← UInt8.ofNat_toNat (x := a1), show a1.toNat = 95 by omega]; rfl)
     have hpu := fun S' => pU2 w0 HSS.out S' a1 b1 v hv
     have hacc2 : accP (n * 256 + v) rr = accP 0 [p, q, r] := by rw [← hacc]; simp only [accP, hh2]
     have hn2 : n * 256 + v < 256 ^ (k + 1) := by rw [Nat.pow_succ]; omega
     have hwv : IntKind.i64.wrap (v : Int) = (v : Int) := IntWalk.i64_in _ (by omega)
     have hor := orK (a := n) (b := v) (k := 8) (by omega) (by omega) (by omega)
     have hor : IntKind.i64.wrap (((BitVec.ofInt IntKind.i64.bits (IntKind.i64.wrap ((n : Int) * 2 ^ min 8 64)) ||| BitVec.ofInt IntKind.i64.bits (v : Int)).toNat : Nat) : Int) = ((n * 256 + v : Nat) : Int) := hor
     simp only [IntKind.bits] at hor
     have Hf := Lib.hid (And.intro hlt (And.intro hr2 (And.intro hn2 hacc2)))
     clear hlt hr2 hn2 hacc2 hacc hn hk hp3 hp3' hvl hv hh2 n1 n2 hxl
     repeat' first | refine st ?_ | (refine ca ?_; first | apply hpu) | (refine br ?_ ?_; all_goals (intro hb; try simp only [bnn] at hb)) | fail
     obtain ⟨hlt, hr2, hn2, hacc2⟩ := Hf.out
     refine HI.out (k + 1, n * 256 + v, rr) _ _ (by simp only; omega) ⟨hlt, hr2, hn2, hacc2, ?_, ?_, ?_, ?_, ?_, ?_, rfl⟩
     all_goals (simp only [go_sem, *]; try rfl)
    | none =>
     have hbad := Bad.out (by rw [← hacc]; simp only [accP, hh2])
     by_cases hl2 : x.length = 2
     ·obtain ⟨a1, b1, rfl⟩ : ∃ a1 b1, x = [a1, b1] := by
       match x, hl2 with
       | [a1, b1], _ => exact ⟨a1, b1, rfl⟩
      have hpu := fun S' => pU2F w0 HSS.out S' a1 b1 hh2
      clear hlt hr2 hacc hn hk hp3 hp3' hh2 hxl hl2 HI
      repeat' first | refine st ?_ | (refine ca ?_; first | apply hpu) | (refine br ?_ ?_; all_goals (intro hb; try simp only [bnn] at hb)) | fail
      intro t x'
      repeat' first | refine st ?_ | (refine br ?_ ?_; all_goals (intro hb; try simp only [bnn] at hb)) | fail
      (apply f_ret; iterate 7 (· simp only [go_sem, *, Tryz.results207]; try rfl))
      exact hbad
     ·have hpu := fun S' => pUX w0 HSS.out HGG.out S' x hxl
      have m1 : ((x.length : Int) != 2) = true := by rw [bne_iff_ne]; omega
      clear hlt hr2 hacc hn hk hp3 hp3' hh2 hxl hl2 HI
      repeat' first | refine st ?_ | (refine ca ?_; first | apply hpu) | (refine br ?_ ?_; all_goals (intro hb; try simp only [bnn] at hb)) | fail
      ·intro v
       repeat' first | refine st ?_ | (refine br ?_ ?_; all_goals (intro hb; try simp only [bnn] at hb)) | fail
       (apply f_ret; iterate 7 (· simp only [go_sem, *, Tryz.results207]; try rfl))
       exact hbad
      ·intro v t x'
       repeat' first | refine st ?_ | (refine br ?_ ?_; all_goals (intro hb; try simp only [bnn] at hb)) | fail
       (apply f_ret; iterate 7 (· simp only [go_sem, *, Tryz.results207]; try rfl))
       exact hbad
   ·have hk3 : k = 3 := by omega
    subst hk3
    have hr0 : rest = [] := by rw [← hrest]; rfl
    subst hr0
    have hg := Good.out n (by rw [← hacc]; rfl)
    have h1 : decide ((3 : Int) < 3) = false := by decide
    have hc3 : ((3 : Nat) : Int) = 3 := rfl
    clear hlt hrest hacc hn hk hp3 hp3' HI
    repeat' first | refine st ?_ | (refine br ?_ ?_; all_goals (intro hb; try simp only [bnn] at hb)) | fail
    (apply f_ret; iterate 7 (· simp only [go_sem, *, Tryz.results207]; try rfl))
    exact hg
theorem ACall.libV {P : Program} {w0 : World} {S : List Blk} {f : FuncId} {args : List AV} {vs : List Value} {v : AV} {c : Value} {R : AOut → List Blk → Prop} (he : ∀ (a : Array Value) (w : World), (callFunc f a).run P w = .ok (.enter f a) w) (ha : args.map cvA = vs.map some)
  (hv : ∀ ι ψ, VR ι ψ v c) (h : ∀ w, RowKit.Below w0.heap.size w0 w → Calls P f vs.toArray w fun e w' => e = .returned c ∧ RowKit.Below w.heap.size w w') (hR : R (.ret v) S) : ACall P w0 f args S R := by
 unfold ACall
 refine ⟨he, fun ι ψ w cargs hRel hl hargs => ?_⟩
 have hlen : args.length = vs.length := by simpa using congrArg List.length ha
 have : cargs = vs.toArray := by
  apply Array.ext_getElem?
  intro j
  by_cases hj : j < args.length
  ·have h1 : args[j]? = some args[j] := List.getElem?_eq_getElem hj
   have h2 : cargs[j]? = some cargs[j] := Array.getElem?_eq_getElem (by omega)
   have h3 : vs[j]? = some vs[j] := List.getElem?_eq_getElem (by omega)
   have h4 := hargs j _ _ h1 h2
   have h5 : (args.map cvA)[j]? = (vs.map some)[j]? := by rw [ha]
   simp only [List.getElem?_map, h1, h3, Option.map_some, Option.some.injEq] at h5
   rw [h2]
   simp only [List.getElem?_toArray, h3]
   rw [cvA_sound h4 h5]
  ·rw [Array.getElem?_eq_none (by omega), List.getElem?_toArray, List.getElem?_eq_none (by omega)]
 subst this
 refine (h w hRel.below).mono ?_
 rintro e w' ⟨rfl, hb⟩
 have hb0 : RowKit.Below w0.heap.size w w' := hb.mono hRel.n0
 exact ⟨ι, ψ, .ret v, S, Ext.refl _ _, hRel.grow hb0 (fun k hk => hb.block k hk) (Psi.le_refl _) (fun _ _ _ e => .inl e) (fun _ _ _ e => .inl e), hv _ _, hR⟩
def digs : List UInt8 := [48, 49, 50, 51, 52, 53, 54, 55, 56, 57]
theorem dig_iff (b : UInt8) : digs.contains b = dgO b := by
 have : ∀ n, n < 256 → digs.contains (UInt8.ofNat n) = dgO (UInt8.ofNat n) := by decide +kernel
 have h := this b.toNat b.toNat_lt
 rwa [UInt8.ofNat_toNat] at h
theorem drop_nil {α : Type _} (p : α → Bool) (l : List α) : l.dropWhile p = [] ↔ l.all p = true := by
 induction l with
 | nil => simp
 | cons b l ih =>
  rw [List.dropWhile_cons, List.all_cons]
  cases hb : p b with
  | true => simp [ih]
  | false => simp
theorem trim_nil (w : List UInt8) : Lib.trimS w digs = [] ↔ w.all dgO = true := by
 have e : (fun b => digs.contains b) = dgO := by funext b; exact dig_iff b
 unfold Lib.trimS Lib.trimLeftS Lib.trimRightS
 rw [drop_nil, e, List.all_reverse]
 constructor
 ·intro h
  have h2 : (w.reverse.dropWhile dgO) = [] := by
   cases hd : w.reverse.dropWhile dgO with
   | nil => rfl
   | cons b r =>
    rw [hd, List.all_cons, Bool.and_eq_true] at h
    have := List.head_dropWhile_not dgO (l := w.reverse) (by rw [hd]; simp)
    simp only [hd, List.head_cons] at this
    rw [h.1] at this; cases this
  rw [drop_nil, List.all_reverse] at h2
  exact h2
 ·intro h
  have : w.reverse.dropWhile dgO = [] := by rw [drop_nil, List.all_reverse]; exact h
  rw [this]; rfl
theorem cTrim (w0 : World) (S : List Blk) (s : List UInt8) (hs : s.length ≤ 10000000) (R : Rt) (h : R (.ret (.str (Lib.trimS s digs))) S) : ACall Tryz.prog w0 205 [.str s, .str [48, 49, 50, 51, 52, 53, 54, 55, 56, 57]] S R := by
 refine ACall.lib (vs := [.string ⟨s.toArray⟩, .string ⟨#[48, 49, 50, 51, 52, 53, 54, 55, 56, 57]⟩]) (v := .str (Lib.trimS s digs)) (c := .string ⟨(Lib.trimS s digs).toArray⟩) (Go.Proofs.enters_of Tryz.func205 (by kernel_rfl) rfl) rfl rfl ?_ h
 intro w hb
 refine (Go.Proofs.Any.strings_Trim_laid Go.Proofs.Tryz.lays160 (by kernel_rfl) ⟨s.toArray⟩ ⟨#[48, 49, 50, 51, 52, 53, 54, 55, 56, 57]⟩ w ?_ (by decide) ?_).mono ?_
 ·rw [show (⟨s.toArray⟩ : ByteArray).size = s.length from rfl]; omega
 ·intro j b hj
  have := List.mem_of_getElem? hj
  simp at this
  rcases this with rfl | rfl | rfl | rfl | rfl | rfl | rfl | rfl | rfl | rfl <;> decide
 ·rintro e w' ⟨rfl, hb⟩
  exact ⟨rfl, hb⟩
theorem atoi (w0 : World) (S : List Blk) (s : List UInt8) (n : Int) (hl : s.length ≤ 18) (hn : Lib.atoi s = some n) (R : Rt) (h : R (.ret (.tup [.int .i64 n, .inil])) S) : ACall Tryz.prog w0 206 [.str s] S R := by
 refine ACall.libV (vs := [.string ⟨s.toArray⟩]) (v := .tup [.int .i64 n, .inil]) (c := .tuple #[.int .i64 n, .nilIface]) (Go.Proofs.enters_of Tryz.func206 (by kernel_rfl) rfl) rfl ?_ ?_ h
 ·intro ι ψ
  refine .tup _ _ rfl ?_
  rintro (_ | _ | j) x v h1 h2
  ·cases h1; cases h2; exact .int _ _
  ·cases h1; cases h2; exact .inil
  ·simp at h1
 ·intro w hb
  refine (Go.Proofs.Any.strconv_Atoi Go.Proofs.Tryz.lays172 ⟨s.toArray⟩ n hl hn w).mono ?_
  rintro e w' ⟨rfl, t, rfl⟩
  exact ⟨rfl, Lib.bytesWorld_below w _ t⟩
theorem decO : ∀ (l : List UInt8) (acc : Nat), l.all dgO = true → Lib.decFrom acc l = some (l.foldl (fun n b => n * 10 + (b.toNat - 48)) acc)
 | [], acc, _ => rfl
 | b :: l, acc, h => by
  rw [List.all_cons, Bool.and_eq_true] at h
  have hb := h.1
  simp only [dgO, Bool.and_eq_true, decide_eq_true_eq] at hb
  have h1 := decO l (acc * 10 + (b.toNat - 48)) h.2
  simp [Lib.decFrom, Lib.digitVal, hb, h1]
theorem atoiO {w : List UInt8} (h1 : w ≠ []) (h3 : w.all dgO = true) : Lib.atoi w = some (valO w : Nat) := by
 cases w with
 | nil => exact absurd rfl h1
 | cons b r =>
  have e1 := decO (b :: r) 0 h3
  have hb := h3
  rw [List.all_cons, Bool.and_eq_true] at hb
  have hb := hb.1
  simp only [dgO, Bool.and_eq_true, decide_eq_true_eq] at hb
  have n1 : (b == 45) = false := by rw [beq_eq_false_iff_ne]; rintro rfl; exact absurd hb.1 (by decide)
  have n2 : (b == 43) = false := by rw [beq_eq_false_iff_ne]; rintro rfl; exact absurd hb.1 (by decide)
  rw [Lib.atoi, n1, n2]
  simp only [Bool.false_eq_true, if_false, Lib.decNat, List.isEmpty_cons, e1, Option.map_some]
  rfl
end Go.Proofs.YthdbijpefkapnaaGreatDoor
