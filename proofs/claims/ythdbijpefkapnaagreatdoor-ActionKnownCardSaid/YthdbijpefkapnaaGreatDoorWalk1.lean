/- YthdbijpefkapnaaGreatDoorWalk1. Texts of the proof of a law about texts: a layer of abstract values above the worlds, the types, the walks of the functions that the law reaches, the law and its card. Own work of an AI agent. -/
import Derived.Test.YthdbijpefkapnaaGreatDoorWalk0
import Derived.Lib.ItoaMem
import Derived.Test.YthdbijpefkapnaaGreatDoorCore2
set_option linter.all false
set_option linter.unusedVariables false
set_option linter.unusedSimpArgs false
namespace Go.Proofs.YthdbijpefkapnaaGreatDoor
open Go Go.Fen
set_option linter.unusedSimpArgs false
set_option linter.unusedVariables false
attribute [local irreducible] RunX WP ACall AnyP OpA ProtL afterCall afterOp
set_option maxRecDepth 8000
def okT (c : Nat) : Bool := decide (32 ≤ c) && !(decide (127 ≤ c) && decide (c ≤ 159))
def nameT (s : List UInt8) : Bool := (codesB s).all okT && decide (textS (codesB s) = s)
def titleB (s : List UInt8) : Bool := decide (s.length ≤ 510) && nameT s
theorem textS_map (l : List Nat) : (textS l).map UInt8.toNat = textU l := by
 induction l with
 | nil => rfl
 | cons c l ih =>
  show (putS c ++ textS l).map UInt8.toNat = putU c ++ textU l
  rw [List.map_append, ih]
  congr 1
  unfold putS
  exact toNat_ofNat _ (putU_byte c)
theorem putN_clean (c : Nat) (hc : okT c = true) : ∀ x ∈ putU c, 32 ≤ x ∧ x ≠ 127 := by
 unfold okT at hc
 simp at hc
 intro x hx
 unfold putU at hx
 split at hx
 ·unfold putN at hx
  repeat' split at hx
  all_goals (simp at hx; omega)
 ·simp [putN] at hx
  omega
def cleanB (s : List UInt8) : Prop := ∀ b ∈ s, 32 ≤ b.toNat ∧ b.toNat ≠ 127
theorem nameT_clean {s : List UInt8} (h : nameT s = true) : cleanB s := by
 unfold nameT at h
 rw [Bool.and_eq_true, List.all_eq_true, decide_eq_true_eq] at h
 obtain ⟨h1, h2⟩ := h
 intro b hb
 rw [← h2] at hb
 have hm : b.toNat ∈ (textS (codesB s)).map UInt8.toNat := List.mem_map.2 ⟨b, hb, rfl⟩
 rw [textS_map] at hm
 obtain ⟨c, hc, hx⟩ := List.mem_flatMap.1 hm
 exact putN_clean c (h1 c hc) _ hx
def rgbT (n : Nat) : List UInt8 := [114, 103, 98, 58, hexC (n / 1048576), hexC (n / 65536 % 16), 47, hexC (n / 4096 % 16), hexC (n / 256 % 16), 47, hexC (n / 16 % 16), hexC (n % 16)]
def colP : List UInt8 → Option Nat
 | [p0, p1, p2, p3, a, b, q, c, d, r, e, f] => if p0 = 114 ∧ p1 = 103 ∧ p2 = 98 ∧ p3 = 58 ∧ q = 47 ∧ r = 47 then
   (match hexV a b, hexV c d, hexV e f with
   | some x, some y, some z => some (x * 65536 + y * 256 + z)
   | _, _, _ => none) else none
 | _ => none
theorem hex_hex : ∀ x, x < 16 → ∀ y, y < 16 → hexV (hexC x) (hexC y) = some (x * 16 + y) := by decide +kernel
theorem hex_clean : ∀ x, x < 16 → 32 ≤ (hexC x).toNat ∧ (hexC x).toNat ≠ 127 ∧ hexC x ≠ 59 := by decide +kernel
theorem col_rgb {n : Nat} (h : n ≤ 16777215) : colP (rgbT n) = some n := by
 unfold rgbT colP
 simp only
 rw [if_pos (by simp), hex_hex _ (by omega) _ (by omega), hex_hex _ (by omega) _ (by omega), hex_hex _ (by omega) _ (by omega)]
 simp only
 congr 1
 omega
theorem col_lt {s : List UInt8} {n : Nat} (h : colP s = some n) : n ≤ 16777215 := by
 unfold colP at h
 split at h
 ·split at h
  ·split at h
   ·next x y z hx hy hz =>
    have := hexV_lt hx
    have := hexV_lt hy
    have := hexV_lt hz
    cases h
    omega
   ·cases h
  ·cases h
 ·cases h
theorem rgb_clean {n : Nat} (h : n ≤ 16777215) : cleanB (rgbT n) := by
 intro b hb
 simp only [rgbT, List.mem_cons, List.not_mem_nil, or_false] at hb
 have g := fun x hx => hex_clean x hx
 rcases hb with rfl | rfl | rfl | rfl | rfl | rfl | rfl | rfl | rfl | rfl | rfl | rfl
 all_goals first
  | decide
  | exact ⟨(g _ (by omega)).1, (g _ (by omega)).2.1⟩
def dgO (b : UInt8) : Bool := decide (48 ≤ b.toNat) && decide (b.toNat ≤ 57)
def valO (w : List UInt8) : Nat := w.foldl (fun n b => n * 10 + (b.toNat - 48)) 0
def numO (w : List UInt8) : Option Nat := if w = [] ∨ 3 < w.length ∨ w.all dgO = false ∨ 255 < valO w then none else some (valO w)
theorem itoa_num : ∀ n : Nat, n < 256 → numO (Lib.itoa (n : Int)) = some n ∧ (Lib.itoa (n : Int)).length ≤ 3 ∧ (Lib.itoa (n : Int)).all (fun b => decide (b ≠ 59) && (decide (32 ≤ b.toNat) && decide (b.toNat ≠ 127))) = true := by decide +kernel
theorem num_le {w : List UInt8} {n : Nat} (h : numO w = some n) : n ≤ 255 := by
 unfold numO at h
 split at h
 ·cases h
 ·next hh => cases h; omega
def cutO (s : List UInt8) : Option (List UInt8 × List UInt8) := if s.dropWhile (fun b => b != 59) = [] then none else some (s.takeWhile (fun b => b != 59), (s.dropWhile (fun b => b != 59)).drop 1)
theorem cut_app : ∀ {w : List UInt8} (r : List UInt8), (∀ b ∈ w, b ≠ 59) → cutO (w ++ 59 :: r) = some (w, r) := by
 intro w r hw
 have h : (w ++ 59 :: r).takeWhile (fun b => b != 59) = w ∧ (w ++ 59 :: r).dropWhile (fun b => b != 59) = 59 :: r := by
  induction w with
  | nil => exact ⟨rfl, rfl⟩
  | cons c w ih =>
   have hc : (c != 59) = true := by simpa using hw c (by simp)
   obtain ⟨h1, h2⟩ := ih (fun b hb => hw b (List.mem_cons_of_mem _ hb))
   simp only [List.cons_append]
   rw [List.takeWhile_cons, List.dropWhile_cons, if_pos hc, if_pos hc, h1, h2]
   exact ⟨rfl, rfl⟩
 unfold cutO
 rw [h.1, h.2]
 rfl
structure Ac where
 kind : Int
 n : Int
 m : Int
 ck : Int
 cn : Int
 text : List UInt8
 deriving DecidableEq
def zeroA : Ac := ⟨0, 0, 0, 0, 0, []⟩
def printO (a : Ac) : Option (List UInt8) :=
 if a = ⟨44, 0, 0, 0, 0, a.text⟩ ∧ titleB a.text = true then some (50 :: 59 :: a.text)
 else if a = ⟨45, a.n, 0, 2, a.cn, []⟩ ∧ (0 ≤ a.n ∧ a.n ≤ 255) ∧ (0 ≤ a.cn ∧ a.cn ≤ 16777215) then some (52 :: 59 :: (Lib.itoa a.n ++ 59 :: rgbT a.cn.toNat))
 else if a = ⟨46, 0, 0, 0, 0, a.text⟩ ∧ a.text.length ≤ 378 then some (53 :: 50 :: 59 :: 99 :: 59 :: encF a.text)
 else none
def parseO (s : List UInt8) : Option Ac :=
 if 512 < s.length then none else
  match cutO s with
  | none => none
  | some (k, r) =>
   if k = [48] ∨ k = [50] then (if titleB r then some ⟨44, 0, 0, 0, 0, r⟩ else none)
   else if k = [52] then
    (match cutO r with
    | none => none
    | some (h, t) => match numO h, colP t with
     | some n, some c => some ⟨45, n, 0, 2, c, []⟩
     | _, _ => none)
   else if k = [53, 50] then
    (match cutO r with
    | none => none
    | some (w, t) => if w = [99] then
      (match decP t with
      | some c => if c.length ≤ 378 then some ⟨46, 0, 0, 0, 0, c⟩ else none
      | none => none) else none)
   else none
theorem print_kinds {a : Ac} {s : List UInt8} (h : printO a = some s) :
  (∃ t, a = ⟨44, 0, 0, 0, 0, t⟩ ∧ titleB t = true ∧ s = 50 :: 59 :: t) ∨
  (∃ n c : Nat, a = ⟨45, n, 0, 2, c, []⟩ ∧ n < 256 ∧ c ≤ 16777215 ∧ s = 52 :: 59 :: (Lib.itoa n ++ 59 :: rgbT c)) ∨
  (∃ t, a = ⟨46, 0, 0, 0, 0, t⟩ ∧ t.length ≤ 378 ∧ s = 53 :: 50 :: 59 :: 99 :: 59 :: encF t) := by
 unfold printO at h
 split at h
 ·next hh => cases h; exact .inl ⟨_, hh.1, hh.2, rfl⟩
 ·split at h
  ·next hh =>
   obtain ⟨h1, ⟨h2, h3⟩, h4, h5⟩ := hh
   cases h
   obtain ⟨n, hn⟩ : ∃ n : Nat, a.n = n := ⟨a.n.toNat, by omega⟩
   obtain ⟨c, hc⟩ : ∃ c : Nat, a.cn = c := ⟨a.cn.toNat, by omega⟩
   rw [hn, hc] at h1
   exact .inr (.inl ⟨n, c, h1, by omega, by omega, by rw [hn, hc]; rfl⟩)
  ·split at h
   ·next hh => cases h; exact .inr (.inr ⟨_, hh.1, hh.2, rfl⟩)
   ·cases h
theorem encF_len (t : List UInt8) : (encF t).length = (t.length + 2) / 3 * 4 := by
 unfold encF encB padN
 simp only [List.length_append, List.length_map, List.length_replicate, enc_len]
 omega
theorem sign_clean : ∀ v, v < 64 → 32 ≤ (signC v).toNat ∧ (signC v).toNat ≠ 127 := by decide +kernel
theorem encF_clean (t : List UInt8) : cleanB (encF t) := by
 intro b hb
 unfold encF encB at hb
 rcases List.mem_append.1 hb with hb | hb
 ·obtain ⟨v, hv, rfl⟩ := List.mem_map.1 hb
  exact sign_clean v (enc_lt _ (toNat_lt t) v hv)
 ·rw [List.eq_of_mem_replicate hb]; decide
theorem dec_encF (t : List UInt8) : decP (encF t) = some t := by
 rw [dec_same]
 have hV := enc_lt _ (toNat_lt t)
 have hd : decT (encF t) = t := by
  unfold decT encF encB
  rw [take_map _ _ hV, (dec_enc _ (toNat_lt t)).1, List.map_map]
  conv => rhs; rw [← List.map_id t]
  apply List.map_congr_left
  intro c _
  simp
 unfold decR
 rw [hd, if_neg (by simp)]
theorem parse_print {a : Ac} {s : List UInt8} (h : printO a = some s) : parseO s = some a ∧ 0 < s.length ∧ s.length ≤ 512 ∧ cleanB s := by
 rcases print_kinds h with ⟨t, rfl, ht, rfl⟩ | ⟨n, c, rfl, hn, hc, rfl⟩ | ⟨t, rfl, ht, rfl⟩
 ·have htl : t.length ≤ 510 ∧ nameT t = true := by unfold titleB at ht; simpa using ht
  refine ⟨?_, by simp, by simp; omega, ?_⟩
  ·unfold parseO
   have hcut : cutO (50 :: 59 :: t) = some ([50], t) := cut_app (w := [50]) t (by simp)
   rw [if_neg (by simp; omega), hcut]
   simp [ht]
  ·intro b hb
   simp only [List.mem_cons] at hb
   rcases hb with rfl | rfl | hb
   ·decide
   ·decide
   ·exact nameT_clean htl.2 b hb
 ·obtain ⟨h1, h2, h3⟩ := itoa_num n hn
  rw [List.all_eq_true] at h3
  have hw : ∀ b ∈ Lib.itoa (n : Int), b ≠ 59 := fun b hb => by have := h3 b hb; simp at this; exact this.1
  have hl : (rgbT c).length = 12 := rfl
  refine ⟨?_, by simp, by simp; omega, ?_⟩
  ·unfold parseO
   have hcut : cutO (52 :: 59 :: (Lib.itoa (n : Int) ++ 59 :: rgbT c)) = some ([52], Lib.itoa (n : Int) ++ 59 :: rgbT c) := cut_app (w := [52]) _ (by simp)
   rw [if_neg (by simp; omega), hcut]
   simp only
   rw [if_neg (by decide), if_pos trivial, cut_app _ hw]
   simp only [h1, col_rgb hc]
  ·intro b hb
   simp only [List.mem_cons, List.mem_append] at hb
   rcases hb with rfl | rfl | hb | rfl | hb
   ·decide
   ·decide
   ·have := h3 b hb; simp at this; exact ⟨this.2.1, this.2.2⟩
   ·decide
   ·exact rgb_clean hc b hb
 ·have hl := encF_len t
  refine ⟨?_, by simp, by simp; omega, ?_⟩
  ·unfold parseO
   have hcut : cutO (53 :: 50 :: 59 :: 99 :: 59 :: encF t) = some ([53, 50], 99 :: 59 :: encF t) := cut_app (w := [53, 50]) _ (by simp)
   have hcut2 : cutO (99 :: 59 :: encF t) = some ([99], encF t) := cut_app (w := [99]) _ (by simp)
   rw [if_neg (by simp; omega), hcut]
   simp only
   rw [if_neg (by decide), if_neg (by decide), if_pos trivial, hcut2]
   simp only [if_true, dec_encF, ht]
  ·intro b hb
   simp only [List.mem_cons] at hb
   rcases hb with rfl | rfl | rfl | rfl | rfl | hb
   ·decide
   ·decide
   ·decide
   ·decide
   ·decide
   ·exact encF_clean t b hb
theorem parse_valid {s : List UInt8} {a : Ac} (h : parseO s = some a) : (∃ u, printO a = some u) ∧ s.length ≤ 512 := by
 unfold parseO at h
 split at h
 ·cases h
 next hl =>
 refine ⟨?_, by omega⟩
 split at h
 ·cases h
 ·split at h
  ·split at h
   ·next ht => cases h; exact ⟨_, by unfold printO; rw [if_pos ⟨rfl, ht⟩]⟩
   ·cases h
  ·split at h
   ·split at h
    ·cases h
    ·split at h
     ·next n c hn hc =>
      cases h
      have h1 := num_le hn
      have h2 := col_lt hc
      exact ⟨_, by unfold printO; rw [if_neg (by simp), if_pos ⟨rfl, ⟨by simp, by simp; omega⟩, by simp, by simp; omega⟩]⟩
     ·cases h
   ·split at h
    ·split at h
     ·cases h
     ·split at h
      ·split at h
       ·split at h
        ·next hc => cases h; exact ⟨_, by unfold printO; rw [if_neg (by simp), if_neg (by simp), if_pos ⟨rfl, hc⟩]⟩
        ·cases h
       ·cases h
      ·cases h
    ·cases h
theorem tmK (a b : Nat) : (a : Int).tmod (b : Int) = ((a % b : Nat) : Int) := by rw [Int.tmod_eq_emod_of_nonneg (by omega)]; omega
theorem tdK (a b : Nat) (h : a < 4294967296) : IntKind.i64.wrap ((a : Int).tdiv (b : Int)) = ((a / b : Nat) : Int) := by
 have := Nat.div_le_self a b
 rw [Int.tdiv_eq_ediv_of_nonneg (by omega), ← Int.natCast_ediv]
 generalize a / b = q at *
 exact IntWalk.i64_in _ (by omega)
def dst (V : List Nat) (i : Nat) : EncS := (V.take i).foldl decStep ⟨[], 0, 0⟩
def InvD (q : EncS) : Prop := (q.wait = 0 ∧ q.rest = 0) ∨ (q.wait = 6 ∧ q.rest < 64) ∨ (q.wait = 4 ∧ q.rest < 16) ∨ (q.wait = 2 ∧ q.rest < 4)
theorem inv_step {q : EncS} {v : Nat} (h : InvD q) (hv : v < 64) : InvD (decStep q v) ∧ (decStep q v).out.length ≤ q.out.length + 1 := by
 obtain ⟨o, w, r⟩ := q
 unfold InvD decStep at *
 simp only at *
 rcases h with ⟨rfl, rfl⟩ | ⟨rfl, h⟩ | ⟨rfl, h⟩ | ⟨rfl, h⟩ <;> simp <;> omega
def Ac.av (a : Ac) : AV := .agg [.int .i64 a.kind, .int .i64 a.n, .int .i64 a.m, .int .i64 a.ck, .int .i64 a.cn, .str a.text]
def parV : Option Ac → AV
 | some a => .tup [a.av, .bool true]
 | none => .tup [zeroA.av, .bool false]
theorem cut_len {s w r : List UInt8} (h : cutO s = some (w, r)) : w.length ≤ s.length ∧ r.length ≤ s.length := by
 unfold cutO at h
 split at h
 ·cases h
 ·cases h
  have htd := congrArg List.length (List.takeWhile_append_dropWhile (p := fun b => b != 59) (l := s))
  rw [List.length_append] at htd
  rw [List.length_drop]
  omega
def printV : Option (List UInt8) → AV
 | some s => .tup [.str s, .int .i64 0]
 | none => .tup [.str [], .int .i64 2]
def noneV : AV := .ifc 170 (.agg [])
theorem oMustT (w0 : World) (S : List Blk) (R : Rt) (h : R (.ret (.tup [])) S) : ACall Tryz.prog w0 52 [.bool true] S R := by
 refine en Tryz.func52 rfl Tryz.ntmps52 fun hO => ?_
 repeat' first | refine st ?_ | (refine br ?_ ?_; all_goals (intro hb; try simp only [bnn] at hb)) | fail
 (apply f_end; iterate 7 (· simp only [go_sem, *, Tryz.results52]; try rfl))
 exact h
theorem oMustF (w0 : World) (S : List Blk) (R : Rt) (h : R (.panic noneV) S) : ACall Tryz.prog w0 52 [.bool false] S R := by
 refine en Tryz.func52 rfl Tryz.ntmps52 fun hO => ?_
 repeat' first | refine st ?_ | (refine br ?_ ?_; all_goals (intro hb; try simp only [bnn] at hb)) | fail
 (apply f_panic; iterate 6 (· simp only [go_sem, *]; try rfl))
 exact h
theorem eqA_fields (k n m ck cn : Int) (t : List UInt8) (k2 n2 m2 ck2 cn2 : Int) (t2 : List UInt8) : (k == k2 && (n == n2 && (m == m2 && ((ck == ck2 && cn == cn2) && t == t2)))) = decide ((⟨k, n, m, ck, cn, t⟩ : Ac) = ⟨k2, n2, m2, ck2, cn2, t2⟩) := by
 rw [Bool.eq_iff_iff]
 simp [and_assoc]
theorem oPlainT (w0 : World) (S : List Blk) (a b : Ac) (hab : a = b) (R : Rt) (h : R (.ret (.tup [])) S) : ACall Tryz.prog w0 112 [a.av, b.av] S R := by
 have hm := oMustT w0
 obtain ⟨k, n, m, ck, cn, t⟩ := a
 obtain ⟨k2, n2, m2, ck2, cn2, t2⟩ := b
 have e := eqA_fields k n m ck cn t k2 n2 m2 ck2 cn2 t2
 rw [decide_eq_true hab] at e
 unfold Ac.av
 simp only
 clear hab
 refine en Tryz.func112 rfl Tryz.ntmps112 fun hO => ?_
 repeat' first | refine st ?_ | (refine ca ?_; first | apply hm) | (refine br ?_ ?_; all_goals (intro hb; try simp only [bnn] at hb)) | fail
 (apply f_end; iterate 7 (· simp only [go_sem, *, Tryz.results112]; try rfl))
 exact h
theorem oPlainF (w0 : World) (S : List Blk) (a b : Ac) (hab : a ≠ b) (R : Rt) (h : R (.panic noneV) S) : ACall Tryz.prog w0 112 [a.av, b.av] S R := by
 have hm := oMustF w0
 obtain ⟨k, n, m, ck, cn, t⟩ := a
 obtain ⟨k2, n2, m2, ck2, cn2, t2⟩ := b
 have e := eqA_fields k n m ck cn t k2 n2 m2 ck2 cn2 t2
 rw [decide_eq_false hab] at e
 unfold Ac.av
 simp only
 unfold noneV at hm h
 clear hab
 refine en Tryz.func112 rfl Tryz.ntmps112 fun hO => ?_
 repeat' first | refine st ?_ | (refine ca ?_; first | apply hm) | (refine br ?_ ?_; all_goals (intro hb; try simp only [bnn] at hb)) | fail
 (apply f_panic; iterate 6 (· simp only [go_sem, *]; try rfl))
 exact h
set_option maxHeartbeats 4000000 in
theorem oTitle (w0 : World) (S : List Blk) (s : List UInt8) (hs : s.length ≤ 10000000) (R : Rt) (h : R (if titleB s then .ret (.tup []) else .panic noneV) S) : ACall Tryz.prog w0 113 [.str s] S R := by
 have hco := fun S' => uCodes w0 S' s (by omega)
 have hcl := codesB_lt s
 have hte := fun S' => uText w0 S' (codesB s) (fun c hc => by have := hcl.1 c hc; omega) (by omega)
 have hll : (codesB s).length ≤ 100000000 := by omega
 unfold titleB nameT at h
 generalize codesB s = l at h hco hte hll
 have hmT := oMustT w0
 have hmF := oMustF w0
 unfold noneV at hmF h
 have bad : (decide (s.length ≤ 510) && (l.all okT && decide (textS l = s))) = false → R (.panic (.ifc 170 (.agg []))) S := fun e => by rw [e] at h; exact h
 have good : (decide (s.length ≤ 510) && (l.all okT && decide (textS l = s))) = true → R (.ret (.tup [])) S := fun e => by rw [e] at h; exact h
 clear h hcl
 by_cases h40 : s.length ≤ 510
 case neg =>
  have d0 : decide ((s.length : Int) ≤ 510) = false := by simp; omega
  have hh := bad (by rw [decide_eq_false h40, Bool.false_and])
  clear h40 hs hte bad good hmT hll
  refine en Tryz.func113 rfl Tryz.ntmps113 fun hO => ?_
  repeat' first | refine st ?_ | (refine ca ?_; first | apply hco | apply hmF) | (refine br ?_ ?_; all_goals (intro hb; try simp only [bnn] at hb)) | fail
  (apply f_panic; iterate 6 (· simp only [go_sem, *]; try rfl))
  exact hh
 have d0 : decide ((s.length : Int) ≤ 510) = true := by simp; omega
 rw [decide_eq_true h40, Bool.true_and] at bad good
 by_cases htx : textS l = s
 case neg =>
  have d1 : (textS l == s) = false := by rw [beq_eq_false_iff_ne]; exact htx
  have hh := bad (by rw [decide_eq_false htx, Bool.and_false])
  clear h40 hs bad good hmT hll htx
  refine en Tryz.func113 rfl Tryz.ntmps113 fun hO => ?_
  repeat' first | refine st ?_ | (refine ca ?_; first | apply hco | apply hte | apply hmF) | (refine br ?_ ?_; all_goals (intro hb; try simp only [bnn] at hb)) | fail
  (apply f_panic; iterate 6 (· simp only [go_sem, *]; try rfl))
  exact hh
 have d1 : (textS l == s) = true := by rw [beq_iff_eq]; exact htx
 rw [decide_eq_true htx, Bool.and_true] at bad good
 have Bad := Lib.hid bad
 have Good := Lib.hid good
 have HmF := Lib.hid hmF
 clear h40 hs htx bad good hmF
 refine en Tryz.func113 rfl Tryz.ntmps113 fun hO => ?_
 repeat' first | refine st ?_ | (refine ca ?_; first | apply hco | apply hte | apply hmT) | (refine br ?_ ?_; all_goals (intro hb; try simp only [bnn] at hb)) | fail
 refine x_ind (fun (k : Nat) env S' => k ≤ l.length ∧ (∀ j c, j < k → l[j]? = some c → okT c = true) ∧ env 1000000 = .dfr [] ∧ env 17 = .sval false (l.map Co) ∧ env 18 = .int .i64 l.length ∧ env 19 = .int .i64 (k : Int) ∧ S' = S) (fun k => l.length - k) 0 ?_ ?_
 ·exact ⟨Nat.zero_le _, fun j c hj => absurd hj (by omega), by (simp only [go_sem, *]; try rfl), by (simp only [go_sem, *]; try rfl), by (simp only [go_sem, *]; try rfl), by (simp only [go_sem, *]; try rfl), rfl⟩
 ·rintro k env S' ⟨hk, hall, e0, e17, e18, e19, rfl⟩ IH
  have HI := Lib.hid IH
  have Hall := Lib.hid hall
  clear IH hall hco hte
  by_cases hlt : k < l.length
  ·obtain ⟨c, hx⟩ : ∃ c, l[k]? = some c := ⟨_, List.getElem?_eq_getElem hlt⟩
   have h1 : decide ((k : Int) < (l.length : Int)) = true := by simpa using hlt
   have hw : IntKind.i64.wrap ((k : Int) + 1) = (k : Int) + 1 := IntWalk.i64_in _ (by omega)
   have bad : okT c = false → R (.panic (.ifc 170 (.agg []))) S' := fun hc => Bad.out (by
    rw [List.all_eq_false]
    exact ⟨c, List.mem_of_getElem? hx, by simp [hc]⟩)
   have good : okT c = true → ∀ j d, j < k + 1 → l[j]? = some d → okT d = true := fun hc j d hj hd => by
    by_cases e : j = k
    ·rw [e, hx] at hd; cases hd; exact hc
    ·exact Hall.out j d (by omega) hd
   have Bad2 := Lib.hid bad
   have Good2 := Lib.hid good
   have Hlt := Lib.hid hlt
   clear bad good hlt hk hll
   by_cases q1 : c < 32
   ·have d2 : decide ((32 : Int) ≤ (c : Int)) = false := by simp; omega
    have hc : okT c = false := by unfold okT; rw [decide_eq_false (by omega)]; rfl
    have hb := Bad2.out hc
    have hmF := HmF.out
    clear q1 hc hmT
    repeat' first | apply x_seq | apply x_skip | apply x_block | apply x_exit | apply x_ret | apply x_ops_nil | apply p_blk | apply p_exit_it | apply p_exit_hit | apply p_ret_it | apply p_ret_blk | apply p_panic_it | apply p_panic_blk | apply p_end | (apply p_exit_miss; (· rfl)) | (apply x_region; simp only [List.toList_toArray]) | (apply x_step0; (· rfl); (· simp only [go_sem, *, Co]; try rfl); (· rfl); simp only [putA]) | (apply ac_ret; simp only [putA]) | apply ac_panic | (apply x_callA []; (· simp only [go_sem, *, Co]; try rfl); (· rfl); (· simp only [go_sem, *, Co]; try rfl); (· rfl); (iterate 2 (· simp only [go_sem, *, Co]; try rfl)); (first | apply hmF); simp only [afterCall, putA]) | (apply x_panic; (· simp only [go_sem, *, Co]; try rfl); (· rfl); (· simp only [go_sem, *, Co]; try rfl)) | (apply x_step; (iterate 2 (· simp only [go_sem, *, Co]; try rfl)); (· rfl); simp only [putA]) | (apply x_unwanted; (· simp only [go_sem, *, Co]; try rfl); (· rfl); simp only [putA]) | (apply x_condT; (· simp only [go_sem, *, Co]; try rfl)) | (apply x_condF; (· simp only [go_sem, *, Co]; try rfl)) | (apply x_guardS; (· rfl); (fail_if_success (focus (show _ = some true; (· simp only [go_sem, *, Co]; try rfl)))); (· simp only [go_sem, *, Co]; try rfl); all_goals (intro hb; try simp only [bnn] at hb)) | (apply x_condS; (· simp only [go_sem, *, Co]; try rfl); all_goals (intro hb; try simp only [bnn] at hb)) | fail
    (apply f_panic; iterate 6 (· simp only [go_sem, *]; try rfl))
    exact hb
   have d2 : decide ((32 : Int) ≤ (c : Int)) = true := by simp; omega
   by_cases q2 : 127 ≤ c
   ·have d3 : decide ((c : Int) < 127) = false := by simp; omega
    by_cases q3 : c ≤ 159
    ·have d4 : decide ((159 : Int) < (c : Int)) = false := by simp; omega
     have hc : okT c = false := by unfold okT; rw [decide_eq_true q2, decide_eq_true q3]; simp
     have hb := Bad2.out hc
     have hmF := HmF.out
     clear q1 q2 q3 hc hmT
     repeat' first | apply x_seq | apply x_skip | apply x_block | apply x_exit | apply x_ret | apply x_ops_nil | apply p_blk | apply p_exit_it | apply p_exit_hit | apply p_ret_it | apply p_ret_blk | apply p_panic_it | apply p_panic_blk | apply p_end | (apply p_exit_miss; (· rfl)) | (apply x_region; simp only [List.toList_toArray]) | (apply x_step0; (· rfl); (· simp only [go_sem, *, Co]; try rfl); (· rfl); simp only [putA]) | (apply ac_ret; simp only [putA]) | apply ac_panic | (apply x_callA []; (· simp only [go_sem, *, Co]; try rfl); (· rfl); (· simp only [go_sem, *, Co]; try rfl); (· rfl); (iterate 2 (· simp only [go_sem, *, Co]; try rfl)); (first | apply hmF); simp only [afterCall, putA]) | (apply x_panic; (· simp only [go_sem, *, Co]; try rfl); (· rfl); (· simp only [go_sem, *, Co]; try rfl)) | (apply x_step; (iterate 2 (· simp only [go_sem, *, Co]; try rfl)); (· rfl); simp only [putA]) | (apply x_unwanted; (· simp only [go_sem, *, Co]; try rfl); (· rfl); simp only [putA]) | (apply x_condT; (· simp only [go_sem, *, Co]; try rfl)) | (apply x_condF; (· simp only [go_sem, *, Co]; try rfl)) | (apply x_guardS; (· rfl); (fail_if_success (focus (show _ = some true; (· simp only [go_sem, *, Co]; try rfl)))); (· simp only [go_sem, *, Co]; try rfl); all_goals (intro hb; try simp only [bnn] at hb)) | (apply x_condS; (· simp only [go_sem, *, Co]; try rfl); all_goals (intro hb; try simp only [bnn] at hb)) | fail
     (apply f_panic; iterate 6 (· simp only [go_sem, *]; try rfl))
     exact hb
    ·have d4 : decide ((159 : Int) < (c : Int)) = true := by simp; omega
     have hc : okT c = true := by unfold okT; rw [decide_eq_false q3, decide_eq_true (by omega)]; simp
     clear q1 q2 q3
     repeat' first | apply x_seq | apply x_skip | apply x_block | apply x_exit | apply x_ret | apply x_ops_nil | apply p_blk | apply p_exit_it | apply p_exit_hit | apply p_ret_it | apply p_ret_blk | apply p_panic_it | apply p_panic_blk | apply p_end | (apply p_exit_miss; (· rfl)) | (apply x_region; simp only [List.toList_toArray]) | (apply x_step0; (· rfl); (· simp only [go_sem, *, Co]; try rfl); (· rfl); simp only [putA]) | (apply ac_ret; simp only [putA]) | apply ac_panic | (apply x_callA []; (· simp only [go_sem, *, Co]; try rfl); (· rfl); (· simp only [go_sem, *, Co]; try rfl); (· rfl); (iterate 2 (· simp only [go_sem, *, Co]; try rfl)); (first | apply hmT); simp only [afterCall, putA]) | (apply x_panic; (· simp only [go_sem, *, Co]; try rfl); (· rfl); (· simp only [go_sem, *, Co]; try rfl)) | (apply x_step; (iterate 2 (· simp only [go_sem, *, Co]; try rfl)); (· rfl); simp only [putA]) | (apply x_unwanted; (· simp only [go_sem, *, Co]; try rfl); (· rfl); simp only [putA]) | (apply x_condT; (· simp only [go_sem, *, Co]; try rfl)) | (apply x_condF; (· simp only [go_sem, *, Co]; try rfl)) | (apply x_guardS; (· rfl); (fail_if_success (focus (show _ = some true; (· simp only [go_sem, *, Co]; try rfl)))); (· simp only [go_sem, *, Co]; try rfl); all_goals (intro hb; try simp only [bnn] at hb)) | (apply x_condS; (· simp only [go_sem, *, Co]; try rfl); all_goals (intro hb; try simp only [bnn] at hb)) | fail
     refine HI.out (k + 1) _ _ (by have := Hlt.out; omega) ⟨Hlt.out, Good2.out hc, ?_, ?_, ?_, ?_, rfl⟩
     all_goals (simp only [go_sem, *]; try rfl)
   ·have d3 : decide ((c : Int) < 127) = true := by simp; omega
    have hc : okT c = true := by unfold okT; rw [decide_eq_false q2, decide_eq_true (by omega)]; rfl
    clear q1 q2
    repeat' first | apply x_seq | apply x_skip | apply x_block | apply x_exit | apply x_ret | apply x_ops_nil | apply p_blk | apply p_exit_it | apply p_exit_hit | apply p_ret_it | apply p_ret_blk | apply p_panic_it | apply p_panic_blk | apply p_end | (apply p_exit_miss; (· rfl)) | (apply x_region; simp only [List.toList_toArray]) | (apply x_step0; (· rfl); (· simp only [go_sem, *, Co]; try rfl); (· rfl); simp only [putA]) | (apply ac_ret; simp only [putA]) | apply ac_panic | (apply x_callA []; (· simp only [go_sem, *, Co]; try rfl); (· rfl); (· simp only [go_sem, *, Co]; try rfl); (· rfl); (iterate 2 (· simp only [go_sem, *, Co]; try rfl)); (first | apply hmT); simp only [afterCall, putA]) | (apply x_panic; (· simp only [go_sem, *, Co]; try rfl); (· rfl); (· simp only [go_sem, *, Co]; try rfl)) | (apply x_step; (iterate 2 (· simp only [go_sem, *, Co]; try rfl)); (· rfl); simp only [putA]) | (apply x_unwanted; (· simp only [go_sem, *, Co]; try rfl); (· rfl); simp only [putA]) | (apply x_condT; (· simp only [go_sem, *, Co]; try rfl)) | (apply x_condF; (· simp only [go_sem, *, Co]; try rfl)) | (apply x_guardS; (· rfl); (fail_if_success (focus (show _ = some true; (· simp only [go_sem, *, Co]; try rfl)))); (· simp only [go_sem, *, Co]; try rfl); all_goals (intro hb; try simp only [bnn] at hb)) | (apply x_condS; (· simp only [go_sem, *, Co]; try rfl); all_goals (intro hb; try simp only [bnn] at hb)) | fail
    refine HI.out (k + 1) _ _ (by have := Hlt.out; omega) ⟨Hlt.out, Good2.out hc, ?_, ?_, ?_, ?_, rfl⟩
    all_goals (simp only [go_sem, *]; try rfl)
  ·have h1 : decide ((k : Int) < (l.length : Int)) = false := by simpa using hlt
   have hh := Good.out (by
    rw [List.all_eq_true]
    intro c hc
    obtain ⟨j, hj⟩ := List.getElem?_of_mem hc
    exact Hall.out j c (by have := (List.getElem?_eq_some_iff.1 hj).1; omega) hj)
   clear hlt hk Hall HI hll
   repeat' first | refine st ?_ | (refine br ?_ ?_; all_goals (intro hb; try simp only [bnn] at hb)) | fail
   (apply f_end; iterate 7 (· simp only [go_sem, *, Tryz.results113]; try rfl))
   exact hh
def inR (T : List (Int × Int)) (c : Int) : Bool := T.any fun p => decide (p.1 ≤ c) && decide (c ≤ p.2)
def SpV (p : Int × Int) : AV := .agg [.int .i64 p.1, .int .i64 p.2]
attribute [go_sem] SpV
@[go_sem] theorem SpV.plainL (l : List (Int × Int)) : plainL (l.map SpV) = true := plainL_map (fun _ => rfl) l
@[go_sem] theorem SpV.ltL (l : List (Int × Int)) (n : Nat) : ltL n (l.map SpV) = true := ltL_iff.2 fun x hx => by obtain ⟨y, _, rfl⟩ := List.mem_map.1 hx; rfl
theorem inR_take {T : List (Int × Int)} {k : Nat} {x : Int × Int} {c : Int} (hx : T[k]? = some x) (h : inR (T.take k) c = false) (hp : (decide (x.1 ≤ c) && decide (c ≤ x.2)) = false) : inR (T.take (k + 1)) c = false := take_any hx h hp
set_option maxHeartbeats 4000000 in
theorem wIn (w0 : World) (S : List Blk) (f : Bool) (c : Int) (T : List (Int × Int)) (hT : T.length ≤ 1000000) (R : Rt) (h : R (.ret (.bool (inR T c))) S) : ACall Tryz.prog w0 46 [.int .i64 c, .sval f (T.map SpV)] S R := by
 refine en Tryz.func46 rfl Tryz.ntmps46 fun hO => ?_
 repeat' first | refine st ?_ | (refine br ?_ ?_; all_goals (intro hb; try simp only [bnn] at hb)) | fail
 refine x_ind (fun (k : Nat) env S' => k ≤ T.length ∧ inR (T.take k) c = false ∧ env 1000000 = .dfr [] ∧ env 0 = .int .i64 c ∧ env 7 = .sval f (T.map SpV) ∧ env 8 = .int .i64 T.length ∧ env 9 = .int .i64 (k : Int) ∧ S' = S) (fun k => T.length - k) 0 ?_ ?_
 ·exact ⟨Nat.zero_le _, by simp [inR], by (simp only [go_sem, *]; try rfl), by (simp only [go_sem, *]; try rfl), by (simp only [go_sem, *]; try rfl), by (simp only [go_sem, *]; try rfl), by (simp only [go_sem, *]; try rfl), rfl⟩
 ·rintro k env S' ⟨hk, hp, e0, f0, f7, f8, f9, rfl⟩ IH
  have HI := Lib.hid IH
  have H := Lib.hid h
  clear IH h
  by_cases hlt : k < T.length
  ·obtain ⟨⟨a, b⟩, hx⟩ : ∃ x, T[k]? = some x := ⟨_, List.getElem?_eq_getElem hlt⟩
   have h1 : decide ((k : Int) < (T.length : Int)) = true := by simpa using hlt
   have hw : IntKind.i64.wrap ((k : Int) + 1) = ((k + 1 : Nat) : Int) := by rw [IntWalk.i64_in _ (by omega)]; omega
   have Hlt := Lib.hid (And.intro hlt hp)
   clear hk hp hlt
   cases d1 : decide (a ≤ c) <;> cases d2 : decide (c ≤ b)
   ·have Hn := Lib.hid (inR_take hx Hlt.out.2 (by simp only; rw [d1, d2]; rfl))
    repeat' first | refine st ?_ | (refine br ?_ ?_; all_goals (intro hb; try simp only [bnn] at hb)) | fail
    refine x_keep hO 0 [0, 7, 8, 9] rfl (by (simp only [go_sem, *]; try rfl)) (by (simp only [go_sem, *]; try rfl)) (by (simp only [go_sem, *]; try rfl)) ?_
    simp only [List.take_zero, List.append_nil]
    refine HI.out (k + 1) _ _ (by have := Hlt.out.1; omega) ⟨Hlt.out.1, Hn.out, ?_, ?_, ?_, ?_, ?_, rfl⟩
    all_goals (simp only [go_sem, *]; try rfl)
   ·have Hn := Lib.hid (inR_take hx Hlt.out.2 (by simp only; rw [d1, d2]; rfl))
    repeat' first | refine st ?_ | (refine br ?_ ?_; all_goals (intro hb; try simp only [bnn] at hb)) | fail
    refine x_keep hO 0 [0, 7, 8, 9] rfl (by (simp only [go_sem, *]; try rfl)) (by (simp only [go_sem, *]; try rfl)) (by (simp only [go_sem, *]; try rfl)) ?_
    simp only [List.take_zero, List.append_nil]
    refine HI.out (k + 1) _ _ (by have := Hlt.out.1; omega) ⟨Hlt.out.1, Hn.out, ?_, ?_, ?_, ?_, ?_, rfl⟩
    all_goals (simp only [go_sem, *]; try rfl)
   ·have Hn := Lib.hid (inR_take hx Hlt.out.2 (by simp only; rw [d1, d2]; rfl))
    repeat' first | refine st ?_ | (refine br ?_ ?_; all_goals (intro hb; try simp only [bnn] at hb)) | fail
    refine x_keep hO 0 [0, 7, 8, 9] rfl (by (simp only [go_sem, *]; try rfl)) (by (simp only [go_sem, *]; try rfl)) (by (simp only [go_sem, *]; try rfl)) ?_
    simp only [List.take_zero, List.append_nil]
    refine HI.out (k + 1) _ _ (by have := Hlt.out.1; omega) ⟨Hlt.out.1, Hn.out, ?_, ?_, ?_, ?_, ?_, rfl⟩
    all_goals (simp only [go_sem, *]; try rfl)
   ·have hh := H.out
    rw [show inR T c = true from any_at hx (by simp only; rw [d1, d2]; rfl)] at hh
    repeat' first | refine st ?_ | (refine br ?_ ?_; all_goals (intro hb; try simp only [bnn] at hb)) | fail
    (apply f_ret; iterate 7 (· simp only [go_sem, *, Tryz.results46]; try rfl))
    exact hh
  ·have h1 : decide ((k : Int) < (T.length : Int)) = false := by simpa using hlt
   have hk' : k = T.length := by omega
   rw [hk', List.take_length] at hp
   have hh := H.out
   rw [hp] at hh
   clear hlt hk hk' HI hp
   repeat' first | refine st ?_ | (refine br ?_ ?_; all_goals (intro hb; try simp only [bnn] at hb)) | fail
   (apply f_ret; iterate 7 (· simp only [go_sem, *, Tryz.results46]; try rfl))
   exact hh
def marksT : List (Int × Int) := [(768, 879), (1155, 1161), (1425, 1469), (1552, 1562), (1611, 1631), (6832, 6911), (7616, 7679), (8203, 8207), (8400, 8447), (65024, 65039), (65056, 65071)]
def widesT : List (Int × Int) := [(4352, 4447), (11904, 12350), (12353, 19903), (19968, 42191), (44032, 55203), (63744, 64255), (65072, 65135), (65280, 65376), (65504, 65510), (127744, 128591), (128640, 128767), (129280, 129535), (131072, 262141)]
def widthOf (c : Int) : Int := if !(decide (0 ≤ c) && okU c.toNat) || (decide (c < 32) || (decide (127 ≤ c) && decide (c < 160))) then -1 else if inR marksT c then 0 else if inR widesT c then 2 else 1
theorem ctl_two (c : Int) (h : 0 ≤ c) : inR [(0, 31), (127, 159)] c = (decide (c < 32) || (decide (127 ≤ c) && decide (c < 160))) := by
 rw [Bool.eq_iff_iff]
 simp only [inR, List.any_cons, List.any_nil, Bool.or_eq_true, Bool.and_eq_true, decide_eq_true_eq, Bool.or_false, Bool.false_eq_true, or_false]
 omega
theorem below_marks (c : Int) (h : c < 768) : inR marksT c = false ∧ inR widesT c = false := by
 constructor <;> rw [Bool.eq_false_iff] <;>
 ·simp only [inR, marksT, widesT, List.any_cons, List.any_nil, ne_eq, Bool.or_eq_true, Bool.and_eq_true, decide_eq_true_eq, Bool.or_false, Bool.false_eq_true, or_false]
  omega
theorem uCheckI (w0 : World) (S : List Blk) (c : Int) (R : Rt) (h : R (.ret (.bool (decide (0 ≤ c) && okU c.toNat))) S) : ACall Tryz.prog w0 45 [.int .i64 c] S R := by
 by_cases c0 : 0 ≤ c
 ·obtain ⟨n, rfl⟩ : ∃ n : Nat, c = n := ⟨c.toNat, by omega⟩
  rw [decide_eq_true c0, Bool.true_and, Int.toNat_natCast] at h
  exact uCheck w0 S n R h
 ·have d0 : decide (0 ≤ c) = false := decide_eq_false c0
  rw [d0, Bool.false_and] at h
  clear c0
  refine en Tryz.func45 rfl Tryz.ntmps45 fun hO => ?_
  repeat' first | refine st ?_ | (refine br ?_ ?_; all_goals (intro hb; try simp only [bnn] at hb)) | fail
  (apply f_ret; iterate 7 (· simp only [go_sem, *, Tryz.results45]; try rfl))
  exact h
def MarksOk (w0 : World) : Prop := gl w0 0 = .pro (flat (marksT.map SpV))
def WidesOk (w0 : World) : Prop := gl w0 1 = .pro (flat (widesT.map SpV))
theorem SpV_len {T : List (Int × Int)} : ∀ y ∈ T.map SpV, y.cells.length = 2 := by
 intro y hy
 obtain ⟨p, _, rfl⟩ := List.mem_map.1 hy
 rfl
set_option maxHeartbeats 4000000 in
theorem wOf (w0 : World) (hM : MarksOk w0) (hW : WidesOk w0) (S : List Blk) (c : Int) (R : Rt) (h : R (.ret (.int .i64 (widthOf c))) S) : ACall Tryz.prog w0 25 [.int .i64 c] S R := by
 have hu := fun S' => uCheckI w0 S' c
 have hc := fun S' => wIn w0 S' false c [(0, 31), (127, 159)] (by decide)
 have hm := fun S' => wIn w0 S' false c marksT (by decide)
 have hw := fun S' => wIn w0 S' false c widesT (by decide)
 unfold MarksOk at hM
 unfold WidesOk at hW
 unfold widthOf at h
 simp only [List.map_cons, List.map_nil, SpV] at hc
 have hM1 : gl w0 0 = .pro (.int .i64 768 :: (flat (marksT.map SpV)).drop 1) := by rw [hM]; rfl
 cases hk : decide (0 ≤ c) && okU c.toNat with
 | false =>
  rw [hk] at h hu
  clear hm hw hc hM hW hM1 hk
  refine en Tryz.func25 rfl Tryz.ntmps25 fun hO => ?_
  repeat' first | refine st ?_ | (refine ca ?_; first | apply hu) | (refine br ?_ ?_; all_goals (intro hb; try simp only [bnn] at hb)) | fail
  (apply f_ret; iterate 7 (· simp only [go_sem, *, Tryz.results25]; try rfl))
  exact h
 | true =>
  have h0 : 0 ≤ c := by
   have := (Bool.and_eq_true _ _ ▸ hk).1
   simpa using this
  rw [ctl_two c h0] at hc
  rw [hk] at h hu
  simp only [Bool.not_true, Bool.false_or] at h
  cases hi : decide (c < 32) || (decide (127 ≤ c) && decide (c < 160)) with
  | true =>
   rw [hi] at h hc
   clear hm hw hM hW hM1 hk hi h0
   refine en Tryz.func25 rfl Tryz.ntmps25 fun hO => ?_
   repeat' first | refine st ?_ | (refine ca ?_; first | apply hu | apply hc) | (apply x_callA [S.length]; (· simp only [go_sem, *]; try rfl); (· rfl); (· simp only [go_sem, *]; try rfl); (· rfl); (iterate 2 (· simp only [go_sem, *]; try rfl)); first | apply hu | apply hc) | (refine br ?_ ?_; all_goals (intro hb; try simp only [bnn] at hb)) | fail
   (apply f_ret; iterate 7 (· simp only [go_sem, *, Tryz.results25]; try rfl))
   exact h
  | false =>
   rw [hi] at h hc
   simp only [Bool.false_eq_true, if_false] at h
   by_cases h7 : c < 768
   ·obtain ⟨b1, b2⟩ := below_marks c h7
    rw [b1, b2] at h
    have d7 : decide (c < 768) = true := decide_eq_true h7
    clear hm hw hM hW hk hi h0 h7 b1 b2
    refine en Tryz.func25 rfl Tryz.ntmps25 fun hO => ?_
    repeat' first | refine st ?_ | (refine ca ?_; first | apply hu | apply hc) | (apply x_callA [S.length]; (· simp only [go_sem, *]; try rfl); (· rfl); (· simp only [go_sem, *]; try rfl); (· rfl); (iterate 2 (· simp only [go_sem, *]; try rfl)); first | apply hu | apply hc) | (refine br ?_ ?_; all_goals (intro hb; try simp only [bnn] at hb)) | fail
    (apply f_ret; iterate 7 (· simp only [go_sem, *, Tryz.results25]; try rfl))
    exact h
   ·have d7 : decide (c < 768) = false := decide_eq_false h7
    clear hk hi h0 h7
    cases hi1 : inR marksT c with
    | true =>
     rw [hi1] at h hm
     have HM := Lib.hid hM
     clear hw hM hW hi1
     refine en Tryz.func25 rfl Tryz.ntmps25 fun hO => ?_
     repeat' first | refine st ?_ | (refine ca ?_; first | apply hu | apply hc) | (apply x_callA [S.length]; (· simp only [go_sem, *]; try rfl); (· rfl); (· simp only [go_sem, *]; try rfl); (· rfl); (iterate 2 (· simp only [go_sem, *]; try rfl)); first | apply hu | apply hc) | (refine br ?_ ?_; all_goals (intro hb; try simp only [bnn] at hb)) | fail
     have hM := HM.out
     clear hM1
     refine x_sliceG (els := marksT.map SpV) (by (simp only [go_sem, *]; try rfl)) rfl un_103 sz_102 hM (by decide) SpV_len (by (simp only [go_sem, *]; try rfl)) ?_
     clear hM
     repeat' first | refine st ?_ | (refine ca ?_; first | apply hm) | (refine br ?_ ?_; all_goals (intro hb; try simp only [bnn] at hb)) | fail
     (apply f_ret; iterate 7 (· simp only [go_sem, *, Tryz.results25]; try rfl))
     exact h
    | false =>
     rw [hi1] at h hm
     have HM := Lib.hid hM
     have HW := Lib.hid hW
     clear hM hW hi1
     refine en Tryz.func25 rfl Tryz.ntmps25 fun hO => ?_
     repeat' first | refine st ?_ | (refine ca ?_; first | apply hu | apply hc) | (apply x_callA [S.length]; (· simp only [go_sem, *]; try rfl); (· rfl); (· simp only [go_sem, *]; try rfl); (· rfl); (iterate 2 (· simp only [go_sem, *]; try rfl)); first | apply hu | apply hc) | (refine br ?_ ?_; all_goals (intro hb; try simp only [bnn] at hb)) | fail
     have hM := HM.out
     clear hM1
     refine x_sliceG (els := marksT.map SpV) (by (simp only [go_sem, *]; try rfl)) rfl un_103 sz_102 hM (by decide) SpV_len (by (simp only [go_sem, *]; try rfl)) ?_
     clear hM
     repeat' first | refine st ?_ | (refine ca ?_; first | apply hm) | (refine br ?_ ?_; all_goals (intro hb; try simp only [bnn] at hb)) | fail
     have hW := HW.out
     refine x_sliceG (els := widesT.map SpV) (by (simp only [go_sem, *]; try rfl)) rfl un_105 sz_102 hW (by decide) SpV_len (by (simp only [go_sem, *]; try rfl)) ?_
     clear hW
     cases hi2 : inR widesT c <;> rw [hi2] at h hw <;> clear hi2
     all_goals
      repeat' first | refine st ?_ | (refine ca ?_; first | apply hw) | (refine br ?_ ?_; all_goals (intro hb; try simp only [bnn] at hb)) | fail
      (apply f_ret; iterate 7 (· simp only [go_sem, *, Tryz.results25]; try rfl))
      exact h
def pcS (v : Nat) : Nat := (List.range 8).foldl (fun s i => s + v / 2 ^ i % 2) 0
set_option maxHeartbeats 4000000 in
theorem oOnes64 (w0 : World) (S : List Blk) (v : Nat) (hv : v < 256) (R : Rt) (h : R (.ret (.int .i64 (pcS v))) S) : ACall Tryz.prog w0 227 [.int .u64 v] S R := by
 refine en Tryz.func227 rfl Tryz.ntmps227 fun hO => ?_
 repeat' first | refine st ?_ | (refine br ?_ ?_; all_goals (intro hb; try simp only [bnn] at hb)) | fail
 (apply f_ret; iterate 7 (· simp only [go_sem, *, Tryz.results227]; try rfl))
 refine (congrArg (fun z => R (.ret (.int .i64 z)) S) (?_ : _ = ((pcS v : Nat) : Int))).mpr h
 clear h hO
 revert v
 decide +kernel
theorem oOnes (w0 : World) (S : List Blk) (v : Nat) (hv : v < 256) (R : Rt) (h : R (.ret (.int .i64 (pcS v))) S) : ACall Tryz.prog w0 185 [.int .u64 v] S R := by
 have h1 := fun S' => oOnes64 w0 S' v hv
 clear hv
 refine en Tryz.func185 rfl Tryz.ntmps185 fun hO => ?_
 repeat' first | refine st ?_ | (refine ca ?_; first | apply h1) | (refine br ?_ ?_; all_goals (intro hb; try simp only [bnn] at hb)) | fail
 (apply f_ret; iterate 7 (· simp only [go_sem, *, Tryz.results185]; try rfl))
 exact h
def I64 (m : Int) : Prop := -9223372036854775808 ≤ m ∧ m ≤ 9223372036854775807
theorem bits_low {x : BitVec 64} {c : Nat} (hc : c < 256) : (x &&& ~~~(BitVec.ofNat 64 255)) = 0#64 ↔ x.toNat < 256 := by
 constructor
 ·intro h
  refine Nat.lt_pow_two_of_testBit (n := 8) x.toNat fun i hi => ?_
  by_cases h64 : i < 64
  ·have := congrArg (fun y => y.getLsbD i) h
   simp only [BitVec.getLsbD_and, BitVec.getLsbD_not, h64, decide_true, Bool.true_and, BitVec.getLsbD_ofNat, BitVec.getLsbD_zero] at this
   have h2 : Nat.testBit 255 i = false := Nat.testBit_lt_two_pow (Nat.lt_of_lt_of_le (by decide) (Nat.pow_le_pow_right (by decide) hi))
   rw [h2] at this
   simpa [BitVec.getLsbD] using this
  ·exact Nat.testBit_lt_two_pow (Nat.lt_of_lt_of_le x.isLt (Nat.pow_le_pow_right (by decide) (by omega)))
 ·intro h
  apply BitVec.eq_of_getLsbD_eq
  intro i hi
  simp only [BitVec.getLsbD_and, BitVec.getLsbD_not, hi, decide_true, Bool.true_and, BitVec.getLsbD_ofNat, BitVec.getLsbD_zero]
  by_cases h8 : i < 8
  ·have : Nat.testBit 255 i = true := by
    have : ∀ j, j < 8 → Nat.testBit 255 j = true := by decide
    exact this i h8
   rw [this]; simp
  ·have : x.getLsbD i = false := Nat.testBit_lt_two_pow (Nat.lt_of_lt_of_le h (Nat.pow_le_pow_right (n := 2) (i := 8) (by decide) (by omega)))
   rw [this]; simp
theorem toNat_ofInt64 (m : Int) : ((BitVec.ofInt 64 m).toNat : Int) = m % 18446744073709551616 := by
 rw [BitVec.toNat_ofInt]
 have : (0 : Int) ≤ m % ((2 ^ 64 : Nat) : Int) := Int.emod_nonneg _ (by decide)
 rw [Int.toNat_of_nonneg this]; rfl
theorem wrap_nat0 (n : Nat) (h : n < 18446744073709551616) : (IntKind.i64.wrap (n : Int) == 0) = (n == 0) := by
 rw [Bool.eq_iff_iff, IntKind.wrap_i64]
 simp only [beq_iff_eq]
 omega
theorem andNot_zero {m : Int} (h : I64 m) : (IntKind.i64.wrap ((((BitVec.ofInt IntKind.i64.bits m &&& ~~~ BitVec.ofInt IntKind.i64.bits 255).toNat : Nat) : Int)) == 0) = (decide (0 ≤ m) && decide (m ≤ 255)) := by
 obtain ⟨h1, h2⟩ := h
 show (IntKind.i64.wrap ((((BitVec.ofInt 64 m &&& ~~~ BitVec.ofNat 64 255).toNat : Nat) : Int)) == 0) = _
 rw [wrap_nat0 _ (BitVec.isLt _)]
 have e := bits_low (x := BitVec.ofInt 64 m) (c := 0) (by decide)
 have t := toNat_ofInt64 m
 rw [Bool.eq_iff_iff]
 simp only [beq_iff_eq, Bool.and_eq_true, decide_eq_true_eq]
 rw [show ((BitVec.ofInt 64 m &&& ~~~ BitVec.ofNat 64 255).toNat = 0) ↔ (BitVec.ofInt 64 m &&& ~~~ BitVec.ofNat 64 255) = 0#64 from ⟨fun e => BitVec.eq_of_toNat_eq e, fun e => by rw [e]; rfl⟩, e]
 omega
def oneB (m : Int) : Bool := m == 1 || (m == 2 || (m == 4 || (m == 8 || (m == 16 || (m == 32 || (m == 64 || m == 128))))))
theorem pc_one : ∀ v : Nat, v < 256 → (((pcS v : Nat) : Int) == 1) = oneB v := by decide +kernel
set_option maxHeartbeats 4000000 in
theorem sOne (w0 : World) (S : List Blk) (m : Int) (hm : I64 m) (R : Rt) (h : R (.ret (.bool (oneB m))) S) : ACall Tryz.prog w0 100 [.int .i64 m] S R := by
 have e := andNot_zero hm
 simp only [IntKind.bits] at e
 by_cases hr : 0 ≤ m ∧ m ≤ 255
 ·obtain ⟨v, rfl⟩ : ∃ v : Nat, m = v := ⟨m.toNat, by omega⟩
  have hv : v < 256 := by omega
  rw [decide_eq_true hr.1, decide_eq_true hr.2, Bool.and_true] at e
  have h1 := fun S' => oOnes w0 S' v hv
  have hw : IntKind.u64.wrap (v : Int) = (v : Int) := by simp only [IntKind.wrap, IntKind.signed, IntKind.bits]; simp; omega
  have h2 := pc_one v hv
  generalize oneB v = b at h h2
  generalize pcS v = p at h1 h2
  clear hr hv hm
  refine en Tryz.func100 rfl Tryz.ntmps100 fun hO => ?_
  repeat' first | refine st ?_ | (refine ca ?_; first | apply h1) | (refine br ?_ ?_; all_goals (intro hb; try simp only [bnn] at hb)) | fail
  (apply f_ret; iterate 7 (· simp only [go_sem, *, Tryz.results100]; try rfl))
  exact h
 ·have h3 : oneB m = false := by
   unfold oneB
   simp only [Bool.or_eq_false_iff, beq_eq_false_iff_ne]
   omega
  have h4 : (decide (0 ≤ m) && decide (m ≤ 255)) = false := by simpa using hr
  rw [h4] at e
  rw [h3] at h
  clear hr h3 h4 hm
  refine en Tryz.func100 rfl Tryz.ntmps100 fun hO => ?_
  repeat' first | refine st ?_ | (refine br ?_ ?_; all_goals (intro hb; try simp only [bnn] at hb)) | fail
  (apply f_ret; iterate 7 (· simp only [go_sem, *, Tryz.results100]; try rfl))
  exact h
theorem sZero (w0 : World) (S : List Blk) (m : Int) (R : Rt) (h : R (.ret (.bool (m == 0))) S) : ACall Tryz.prog w0 97 [.int .i64 m] S R := by
 refine en Tryz.func97 rfl Tryz.ntmps97 fun hO => ?_
 repeat' first | refine st ?_ | (refine br ?_ ?_; all_goals (intro hb; try simp only [bnn] at hb)) | fail
 (apply f_ret; iterate 7 (· simp only [go_sem, *, Tryz.results97]; try rfl))
 exact h
def clrB (m : Int) : Bool := m == 3 || (oneB m && (m != 1 && m != 2))
theorem one_cases {m : Int} (h : oneB m = true) : m = 1 ∨ m = 2 ∨ m = 4 ∨ m = 8 ∨ m = 16 ∨ m = 32 ∨ m = 64 ∨ m = 128 := by
 unfold oneB at h
 simpa using h
theorem and3 {m : Int} (h : oneB m = true) : (IntKind.i64.wrap ((((BitVec.ofInt IntKind.i64.bits m &&& BitVec.ofInt IntKind.i64.bits 3).toNat : Nat) : Int)) == 0) = (m != 1 && m != 2) := by
 rcases one_cases h with rfl | rfl | rfl | rfl | rfl | rfl | rfl | rfl <;> decide
set_option maxHeartbeats 4000000 in
theorem sClr (w0 : World) (S : List Blk) (m : Int) (hm : I64 m) (R : Rt) (h : R (.ret (.bool (clrB m))) S) : ACall Tryz.prog w0 102 [.int .i64 m] S R := by
 have h1 := fun S' => sOne w0 S' m hm
 unfold clrB at h
 cases d3 : m == 3 <;> rw [d3] at h
 ·cases d1 : oneB m
  ·rw [d1] at h h1
   clear hm d1
   refine en Tryz.func102 rfl Tryz.ntmps102 fun hO => ?_
   repeat' first | refine st ?_ | (refine ca ?_; first | apply h1) | (refine br ?_ ?_; all_goals (intro hb; try simp only [bnn] at hb)) | fail
   (apply f_ret; iterate 7 (· simp only [go_sem, *, Tryz.results102]; try rfl))
   exact h
  ·have e := and3 d1
   simp only [IntKind.bits] at e
   rw [d1] at h h1
   clear hm d1
   refine en Tryz.func102 rfl Tryz.ntmps102 fun hO => ?_
   repeat' first | refine st ?_ | (refine ca ?_; first | apply h1) | (refine br ?_ ?_; all_goals (intro hb; try simp only [bnn] at hb)) | fail
   (apply f_ret; iterate 7 (· simp only [go_sem, *, Tryz.results102]; try rfl))
   simpa using h
 ·clear hm h1
  refine en Tryz.func102 rfl Tryz.ntmps102 fun hO => ?_
  repeat' first | refine st ?_ | (refine br ?_ ?_; all_goals (intro hb; try simp only [bnn] at hb)) | fail
  (apply f_ret; iterate 7 (· simp only [go_sem, *, Tryz.results102]; try rfl))
  exact h
theorem sUnder (w0 : World) (S : List Blk) (m : Int) (R : Rt) (h : R (.ret (.bool (decide (0 ≤ m) && decide (m ≤ 5)))) S) : ACall Tryz.prog w0 104 [.int .i64 m] S R := by
 cases d : decide (0 ≤ m) <;> rw [d] at h
 all_goals
  refine en Tryz.func104 rfl Tryz.ntmps104 fun hO => ?_
  repeat' first | refine st ?_ | (refine br ?_ ?_; all_goals (intro hb; try simp only [bnn] at hb)) | fail
  (apply f_ret; iterate 7 (· simp only [go_sem, *, Tryz.results104]; try rfl))
  first | exact h | (simpa using h)
def fnV (f : FuncId) : AV := .fn (.func f) [] []
def colPen (g : FuncId) : AV := .agg [fnV 97, .bool true, .fn (.func 98) [] [.pro [fnV g]]]
theorem sColPen (w0 : World) (S : List Blk) (g : FuncId) (R : Rt) (h : R (.ret (colPen g)) S) : ACall Tryz.prog w0 96 [fnV g] S R := by
 unfold colPen fnV at h
 unfold fnV
 refine en Tryz.func96 rfl Tryz.ntmps96 fun hO => ?_
 repeat' first | refine st ?_ | (refine br ?_ ?_; all_goals (intro hb; try simp only [bnn] at hb)) | fail
 (apply f_ret; iterate 7 (· simp only [go_sem, *, Tryz.results96]; try rfl))
 exact h
def pensE : List (AV × AV) := [(.int .i64 0, .agg [fnV 97, .bool false, fnV 99]), (.int .i64 1, .agg [fnV 100, .bool false, fnV 101]), (.int .i64 2, .agg [fnV 102, .bool false, fnV 103]),
 (.int .i64 3, .agg [fnV 104, .bool false, fnV 105]), (.int .i64 4, colPen 106), (.int .i64 5, colPen 107), (.int .i64 6, colPen 108)]
set_option maxHeartbeats 8000000 in
theorem sPens (w0 : World) (S : List Blk) (R : Rt) (h : R (.ret (.mval pensE)) S) : ACall Tryz.prog w0 47 [] S R := by
 have hc := sColPen w0
 unfold colPen fnV at hc
 unfold pensE colPen fnV at h
 refine en Tryz.func47 rfl Tryz.ntmps47 fun hO => ?_
 repeat' first | refine st ?_ | (refine ca ?_; first | apply hc) | (refine br ?_ ?_; all_goals (intro hb; try simp only [bnn] at hb)) | fail
 (apply f_ret; iterate 7 (· simp only [go_sem, *, Tryz.results47]; try rfl))
 exact h
theorem oLimits (w0 : World) (S : List Blk) (R : Rt) (h : R (.ret (.agg [.int .i64 0, .int .i64 255, .int .i64 16777215])) S) : ACall Tryz.prog w0 109 [] S R := by
 refine en Tryz.func109 rfl Tryz.ntmps109 fun hO => ?_
 repeat' first | refine st ?_ | (refine br ?_ ?_; all_goals (intro hb; try simp only [bnn] at hb)) | fail
 (apply f_ret; iterate 7 (· simp only [go_sem, *, Tryz.results109]; try rfl))
 exact h
def limO (k : Int) : Int := if k = 0 then 0 else if k = 1 then 255 else 16777215
def colB (k n : Int) : Bool := (decide (0 ≤ k) && decide (k ≤ 2)) && (decide (0 ≤ n) && decide (n ≤ limO k))
set_option maxHeartbeats 8000000 in
theorem oColCheck (w0 : World) (S : List Blk) (k n : Int) (R : Rt) (h : R (.ret (.int .i64 (if colB k n then 0 else 130))) S) : ACall Tryz.prog w0 48 [.agg [.int .i64 k, .int .i64 n]] S R := by
 have hl := oLimits w0
 have H := Lib.hid h
 clear h
 have hk3 : k = 0 ∨ k = 1 ∨ k = 2 ∨ k < 0 ∨ (0 ≤ k ∧ 3 ≤ k) := by omega
 rcases hk3 with rfl | rfl | rfl | hk | ⟨hk, hk3⟩
 case inr.inr.inr.inl =>
  have d1 : decide (k < 0) = true := decide_eq_true hk
  have hh := H.out
  rw [if_neg (by unfold colB; simp; omega)] at hh
  clear hk H
  refine en Tryz.func48 rfl Tryz.ntmps48 fun hO => ?_
  repeat' first | refine st ?_ | (refine ca ?_; first | apply hl) | (refine br ?_ ?_; all_goals (intro hb; try simp only [bnn] at hb)) | refine sd ?_ | apply pl_nil | (apply c_end; (· decide +kernel)) | refine bd ?_ ?_ | (refine cd ?_; first | apply hl) | fail
  (apply f_ret; iterate 7 (· simp only [go_sem, *, Tryz.results48]; try rfl))
  exact hh
 case inr.inr.inr.inr =>
  have d1 : decide (k < 0) = false := decide_eq_false (by omega)
  have d2 : decide (3 ≤ k) = true := decide_eq_true hk3
  have hh := H.out
  rw [if_neg (by unfold colB; simp; omega)] at hh
  clear hk hk3 H
  refine en Tryz.func48 rfl Tryz.ntmps48 fun hO => ?_
  repeat' first | refine st ?_ | (refine ca ?_; first | apply hl) | (refine br ?_ ?_; all_goals (intro hb; try simp only [bnn] at hb)) | refine sd ?_ | apply pl_nil | (apply c_end; (· decide +kernel)) | refine bd ?_ ?_ | (refine cd ?_; first | apply hl) | fail
  (apply f_ret; iterate 7 (· simp only [go_sem, *, Tryz.results48]; try rfl))
  exact hh
 all_goals
  rcases (show n < 0 ∨ 0 ≤ n by omega) with hn | hn
  all_goals
   first
   | have d1 : decide (n < 0) = true := decide_eq_true hn
   | have d1 : decide (n < 0) = false := decide_eq_false (by omega)
   have Hn := Lib.hid hn
   clear hn
   refine en Tryz.func48 rfl Tryz.ntmps48 fun hO => ?_
   repeat' first | refine st ?_ | (refine ca ?_; first | apply hl) | (refine br ?_ ?_; all_goals (intro hb; try simp only [bnn] at hb)) | refine sd ?_ | apply pl_nil | (apply c_end; (· decide +kernel)) | refine bd ?_ ?_ | (refine cd ?_; first | apply hl) | fail
   all_goals (apply f_ret; iterate 7 (· simp only [go_sem, *, Tryz.results48]; try rfl))
   all_goals
    refine cast (congrArg (fun v => R (.ret (.int .i64 v)) S) ?_) H.out
    have hn := Hn.out
    simp only [decide_eq_true_eq, decide_eq_false_iff_not] at *
    first
    | (rw [if_pos (by simp [colB, limO]; omega)])
    | (rw [if_neg (by simp [colB, limO]; omega)])
def plainC (ck cn : Int) : Bool := ck == 0 && cn == 0
def undB (m : Int) : Bool := decide (0 ≤ m) && decide (m ≤ 5)
def penN (n m ck cn : Int) : Bool :=
 if n = 0 then m == 0 && plainC ck cn else if n = 1 then oneB m && plainC ck cn else if n = 2 then clrB m && plainC ck cn else if n = 3 then undB m && plainC ck cn
 else if n = 4 ∨ n = 5 ∨ n = 6 then m == 0 && colB ck cn else false
def penOk (a : Ac) : Bool := a.kind == 39 && (a.text == [] && penN a.n a.m a.ck a.cn)
theorem colB0 : colB 0 0 = true := by decide
theorem pens_cases (n : Int) : (n = 0 ∨ n = 1 ∨ n = 2 ∨ n = 3 ∨ n = 4 ∨ n = 5 ∨ n = 6) ∨ ((n == 0) = false ∧ (n == 1) = false ∧ (n == 2) = false ∧ (n == 3) = false ∧ (n == 4) = false ∧ (n == 5) = false ∧ (n == 6) = false) := by
 simp only [beq_eq_false_iff_ne]
 omega
set_option maxHeartbeats 40000000 in
theorem sCheckPen (w0 : World) (S : List Blk) (a : Ac) (hm : I64 a.m) (R : Rt) (h : R (.ret (.int .i64 (if penOk a then 0 else 141))) S) : ACall Tryz.prog w0 27 [a.av] S R := by
 obtain ⟨k, n, m, ck, cn, t⟩ := a
 have hp := sPens w0
 unfold pensE colPen fnV at hp
 have z1 := fun S' => sZero w0 S' m
 have z2 := fun S' => sOne w0 S' m hm
 have z3 := fun S' => sClr w0 S' m hm
 have z4 := fun S' => sUnder w0 S' m
 have hc := fun S' => oColCheck w0 S' ck cn
 unfold penOk at h
 unfold Ac.av
 simp only at h ⊢ hm
 clear hm
 rw [show (decide (0 ≤ m) && decide (m ≤ 5)) = undB m from rfl] at z4
 rcases pens_cases n with (rfl | rfl | rfl | rfl | rfl | rfl | rfl) | ⟨c0, c1, c2, c3, c4, c5, c6⟩
 ·clear z2 z3 z4
  refine en Tryz.func27 rfl Tryz.ntmps27 fun hO => ?_
  refine share ?K1 ?hK1 fun key1 => ?main1
  case main1 =>
   repeat' ((fail_if_success (apply x_stopR 2)); first | refine st ?_ | (refine ca ?_; first | apply hp) | (refine br ?_ ?_; all_goals (intro hb; try simp only [bnn] at hb)) | refine sd ?_ | apply pl_nil | (apply c_end; (· decide +kernel)) | refine bd ?_ ?_ | (refine cd ?_; first | apply hp) | fail)
   all_goals
    refine x_gen [1000000, 1, 3, 4] ?_
    simp only [agreeL, go_sem]
    exact key1
  case hK1 =>
   rintro env ⟨e0, e1, e3, e4⟩
   repeat' first | refine st ?_ | (refine ca ?_; first | apply z1 | apply hc) | (refine br ?_ ?_; all_goals (intro hb; try simp only [bnn] at hb)) | fail
   all_goals (apply f_ret; iterate 7 (· simp only [go_sem, *, Tryz.results27]; try rfl))
   all_goals
    refine (congrArg (fun z => R (.ret (.int .i64 z)) S) (?_ : _ = _)).mpr h
    clear h hp z1 hc hO e0 e1 e3 e4
    simp_all [penN, plainC, colB0]
 ·clear z1 z3 z4
  refine en Tryz.func27 rfl Tryz.ntmps27 fun hO => ?_
  refine share ?K2 ?hK2 fun key1 => ?main2
  case main2 =>
   repeat' ((fail_if_success (apply x_stopR 2)); first | refine st ?_ | (refine ca ?_; first | apply hp) | (refine br ?_ ?_; all_goals (intro hb; try simp only [bnn] at hb)) | refine sd ?_ | apply pl_nil | (apply c_end; (· decide +kernel)) | refine bd ?_ ?_ | (refine cd ?_; first | apply hp) | fail)
   all_goals
    refine x_gen [1000000, 1, 3, 4] ?_
    simp only [agreeL, go_sem]
    exact key1
  case hK2 =>
   rintro env ⟨e0, e1, e3, e4⟩
   repeat' first | refine st ?_ | (refine ca ?_; first | apply z2 | apply hc) | (refine br ?_ ?_; all_goals (intro hb; try simp only [bnn] at hb)) | fail
   all_goals (apply f_ret; iterate 7 (· simp only [go_sem, *, Tryz.results27]; try rfl))
   all_goals
    refine (congrArg (fun z => R (.ret (.int .i64 z)) S) (?_ : _ = _)).mpr h
    clear h hp z2 hc hO e0 e1 e3 e4
    simp_all [penN, plainC, colB0]
 ·clear z1 z2 z4
  refine en Tryz.func27 rfl Tryz.ntmps27 fun hO => ?_
  refine share ?K3 ?hK3 fun key1 => ?main3
  case main3 =>
   repeat' ((fail_if_success (apply x_stopR 2)); first | refine st ?_ | (refine ca ?_; first | apply hp) | (refine br ?_ ?_; all_goals (intro hb; try simp only [bnn] at hb)) | refine sd ?_ | apply pl_nil | (apply c_end; (· decide +kernel)) | refine bd ?_ ?_ | (refine cd ?_; first | apply hp) | fail)
   all_goals
    refine x_gen [1000000, 1, 3, 4] ?_
    simp only [agreeL, go_sem]
    exact key1
  case hK3 =>
   rintro env ⟨e0, e1, e3, e4⟩
   repeat' first | refine st ?_ | (refine ca ?_; first | apply z3 | apply hc) | (refine br ?_ ?_; all_goals (intro hb; try simp only [bnn] at hb)) | fail
   all_goals (apply f_ret; iterate 7 (· simp only [go_sem, *, Tryz.results27]; try rfl))
   all_goals
    refine (congrArg (fun z => R (.ret (.int .i64 z)) S) (?_ : _ = _)).mpr h
    clear h hp z3 hc hO e0 e1 e3 e4
    simp_all [penN, plainC, colB0]
 ·clear z1 z2 z3
  refine en Tryz.func27 rfl Tryz.ntmps27 fun hO => ?_
  refine share ?K4 ?hK4 fun key1 => ?main4
  case main4 =>
   repeat' ((fail_if_success (apply x_stopR 2)); first | refine st ?_ | (refine ca ?_; first | apply hp) | (refine br ?_ ?_; all_goals (intro hb; try simp only [bnn] at hb)) | refine sd ?_ | apply pl_nil | (apply c_end; (· decide +kernel)) | refine bd ?_ ?_ | (refine cd ?_; first | apply hp) | fail)
   all_goals
    refine x_gen [1000000, 1, 3, 4] ?_
    simp only [agreeL, go_sem]
    exact key1
  case hK4 =>
   rintro env ⟨e0, e1, e3, e4⟩
   repeat' first | refine st ?_ | (refine ca ?_; first | apply z4 | apply hc) | (refine br ?_ ?_; all_goals (intro hb; try simp only [bnn] at hb)) | fail
   all_goals (apply f_ret; iterate 7 (· simp only [go_sem, *, Tryz.results27]; try rfl))
   all_goals
    refine (congrArg (fun z => R (.ret (.int .i64 z)) S) (?_ : _ = _)).mpr h
    clear h hp z4 hc hO e0 e1 e3 e4
    simp_all [penN, plainC, colB0]
 ·clear z2 z3 z4
  refine en Tryz.func27 rfl Tryz.ntmps27 fun hO => ?_
  refine share ?K5 ?hK5 fun key1 => ?main5
  case main5 =>
   repeat' ((fail_if_success (apply x_stopR 2)); first | refine st ?_ | (refine ca ?_; first | apply hp) | (refine br ?_ ?_; all_goals (intro hb; try simp only [bnn] at hb)) | refine sd ?_ | apply pl_nil | (apply c_end; (· decide +kernel)) | refine bd ?_ ?_ | (refine cd ?_; first | apply hp) | fail)
   all_goals
    refine x_gen [1000000, 1, 3, 4] ?_
    simp only [agreeL, go_sem]
    exact key1
  case hK5 =>
   rintro env ⟨e0, e1, e3, e4⟩
   repeat' first | refine st ?_ | (refine ca ?_; first | apply z1 | apply hc) | (refine br ?_ ?_; all_goals (intro hb; try simp only [bnn] at hb)) | fail
   all_goals (apply f_ret; iterate 7 (· simp only [go_sem, *, Tryz.results27]; try rfl))
   all_goals
    refine (congrArg (fun z => R (.ret (.int .i64 z)) S) (?_ : _ = _)).mpr h
    clear h hp z1 hc hO e0 e1 e3 e4
    simp_all [penN, plainC, colB0]
 ·clear z2 z3 z4
  refine en Tryz.func27 rfl Tryz.ntmps27 fun hO => ?_
  refine share ?K6 ?hK6 fun key1 => ?main6
  case main6 =>
   repeat' ((fail_if_success (apply x_stopR 2)); first | refine st ?_ | (refine ca ?_; first | apply hp) | (refine br ?_ ?_; all_goals (intro hb; try simp only [bnn] at hb)) | refine sd ?_ | apply pl_nil | (apply c_end; (· decide +kernel)) | refine bd ?_ ?_ | (refine cd ?_; first | apply hp) | fail)
   all_goals
    refine x_gen [1000000, 1, 3, 4] ?_
    simp only [agreeL, go_sem]
    exact key1
  case hK6 =>
   rintro env ⟨e0, e1, e3, e4⟩
   repeat' first | refine st ?_ | (refine ca ?_; first | apply z1 | apply hc) | (refine br ?_ ?_; all_goals (intro hb; try simp only [bnn] at hb)) | fail
   all_goals (apply f_ret; iterate 7 (· simp only [go_sem, *, Tryz.results27]; try rfl))
   all_goals
    refine (congrArg (fun z => R (.ret (.int .i64 z)) S) (?_ : _ = _)).mpr h
    clear h hp z1 hc hO e0 e1 e3 e4
    simp_all [penN, plainC, colB0]
 ·clear z2 z3 z4
  refine en Tryz.func27 rfl Tryz.ntmps27 fun hO => ?_
  refine share ?K7 ?hK7 fun key1 => ?main7
  case main7 =>
   repeat' ((fail_if_success (apply x_stopR 2)); first | refine st ?_ | (refine ca ?_; first | apply hp) | (refine br ?_ ?_; all_goals (intro hb; try simp only [bnn] at hb)) | refine sd ?_ | apply pl_nil | (apply c_end; (· decide +kernel)) | refine bd ?_ ?_ | (refine cd ?_; first | apply hp) | fail)
   all_goals
    refine x_gen [1000000, 1, 3, 4] ?_
    simp only [agreeL, go_sem]
    exact key1
  case hK7 =>
   rintro env ⟨e0, e1, e3, e4⟩
   repeat' first | refine st ?_ | (refine ca ?_; first | apply z1 | apply hc) | (refine br ?_ ?_; all_goals (intro hb; try simp only [bnn] at hb)) | fail
   all_goals (apply f_ret; iterate 7 (· simp only [go_sem, *, Tryz.results27]; try rfl))
   all_goals
    refine (congrArg (fun z => R (.ret (.int .i64 z)) S) (?_ : _ = _)).mpr h
    clear h hp z1 hc hO e0 e1 e3 e4
    simp_all [penN, plainC, colB0]
 ·have hn : penN n m ck cn = false := by
   simp only [beq_eq_false_iff_ne] at c0 c1 c2 c3 c4 c5 c6
   simp [penN, c0, c1, c2, c3, c4, c5, c6]
  rw [hn] at h
  clear z1 z2 z3 z4 hc hn
  refine en Tryz.func27 rfl Tryz.ntmps27 fun hO => ?_
  repeat' first | refine st ?_ | (refine ca ?_; first | apply hp) | (refine br ?_ ?_; all_goals (intro hb; try simp only [bnn] at hb)) | refine sd ?_ | apply pl_nil | (apply c_end; (· decide +kernel)) | refine bd ?_ ?_ | (refine cd ?_; first | apply hp) | fail
  all_goals (apply f_ret; iterate 7 (· simp only [go_sem, *, Tryz.results27]; try rfl))
  all_goals simpa using h
end Go.Proofs.YthdbijpefkapnaaGreatDoor
