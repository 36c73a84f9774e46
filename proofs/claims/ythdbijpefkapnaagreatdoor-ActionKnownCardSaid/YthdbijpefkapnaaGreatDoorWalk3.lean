/- YthdbijpefkapnaaGreatDoorWalk3. Texts of the proof of a law about texts: a layer of abstract values above the worlds, the types, the walks of the functions that the law reaches, the law and its card. Own work of an AI agent. -/
import Derived.Test.YthdbijpefkapnaaGreatDoorWalk2
import Derived.Test.YthdbijpefkapnaaGreatDoorCore1
import Derived.Test.YthdbijpefkapnaaGreatDoorWalk0
import Derived.Test.YthdbijpefkapnaaGreatDoorWalk1
import Derived.Test.YthdbijpefkapnaaGreatDoorCore2
set_option linter.all false
set_option linter.unusedVariables false
set_option linter.unusedSimpArgs false
namespace Go.Proofs.YthdbijpefkapnaaGreatDoor
open Go Go.Fen
set_option linter.unusedSimpArgs false
set_option linter.unusedVariables false
attribute [local irreducible] RunX WP ACall AnyP OpA ProtL afterCall afterOp
set_option maxRecDepth 8000
def rdOut : Option Ac → AOut
 | some a => .ret a.av
 | none => .panic noneV
def rd2 (s : List UInt8) : Option Ac := match cutO s with
 | none => none
 | some (h, t) => match numO h, colP t with
  | some n, some c => some ⟨45, n, 0, 2, c, []⟩
  | _, _ => none
def rd3 (s : List UInt8) : Option Ac := match cutO s with
 | none => none
 | some (w, t) => if w = [99] then (match decP t with
  | some c => if c.length ≤ 378 then some ⟨46, 0, 0, 0, 0, c⟩ else none
  | none => none) else none
set_option maxHeartbeats 8000000 in
theorem oRead2 (w0 : World) (hS : Syn w0) (hG : Rng w0) (S : List Blk) (s : List UInt8) (hs : s.length ≤ 10000) (R : Rt) (h : R (rdOut (rd2 s)) S) : ACall Tryz.prog w0 204 [.str s] S R := by
 have ht := fun S' => oTwo w0 S' s (by omega)
 have hmT := oMustT w0
 have hmF := oMustF w0
 unfold rd2 at h
 cases hq : cutO s with
 | none =>
  rw [hq] at h ht
  unfold rdOut at h
  unfold twoV at ht
  unfold noneV at h ht
  clear hq hs hmT hmF hS hG
  refine en Tryz.func204 rfl Tryz.ntmps204 fun hO => ?_
  repeat' first | refine st ?_ | (refine ca ?_; first | apply ht) | (refine br ?_ ?_; all_goals (intro hb; try simp only [bnn] at hb)) | fail
  (apply f_panic; iterate 6 (· simp only [go_sem, *]; try rfl))
  exact h
 | some q =>
 obtain ⟨a, t⟩ := q
 obtain ⟨hal, htl⟩ := cut_len hq
 rw [hq] at h ht
 unfold twoV at ht
 simp only at h ht
 have htr := fun S' => cTrim w0 S' a (by omega)
 have bad : (match numO a, colP t with | some n, some c => some (⟨45, n, 0, 2, c, []⟩ : Ac) | _, _ => none) = none → R (.panic noneV) S := fun e => by rw [e] at h; exact h
 unfold noneV at bad hmF
 by_cases h1 : a = []
 ·subst h1
  have hb := bad rfl
  clear bad h hq hs hmT hal htl hS hG
  refine en Tryz.func204 rfl Tryz.ntmps204 fun hO => ?_
  repeat' first | refine st ?_ | (refine ca ?_; first | apply ht | apply hmF) | (refine br ?_ ?_; all_goals (intro hb; try simp only [bnn] at hb)) | fail
  (apply f_panic; iterate 6 (· simp only [go_sem, *]; try rfl))
  exact hb
 have d1 : (a == []) = false := by simpa using h1
 by_cases h2 : a.length ≤ 3
 case neg =>
  have hb := bad (by unfold numO; rw [if_pos (.inr (.inl (by omega)))])
  have d2 : decide ((a.length : Int) ≤ 3) = false := by simp; omega
  clear bad h hq hs hmT hal htl h1 h2 hS hG
  refine en Tryz.func204 rfl Tryz.ntmps204 fun hO => ?_
  repeat' first | refine st ?_ | (refine ca ?_; first | apply ht | apply hmF) | (refine br ?_ ?_; all_goals (intro hb; try simp only [bnn] at hb)) | fail
  (apply f_panic; iterate 6 (· simp only [go_sem, *]; try rfl))
  exact hb
 have d2 : decide ((a.length : Int) ≤ 3) = true := by simp; omega
 have htn := trim_nil a
 cases h3 : a.all dgO with
 | false =>
  have hb := bad (by unfold numO; rw [if_pos (.inr (.inr (.inl h3)))])
  have d3 : (Lib.trimS a digs == []) = false := by rw [beq_eq_false_iff_ne]; intro e; rw [htn.1 e] at h3; cases h3
  generalize Lib.trimS a digs = u at htr d3
  clear bad h hq hs hmT hal htl h1 h2 h3 htn hS hG
  refine en Tryz.func204 rfl Tryz.ntmps204 fun hO => ?_
  repeat' first | refine st ?_ | (refine ca ?_; first | apply ht | apply htr | apply hmF) | (refine br ?_ ?_; all_goals (intro hb; try simp only [bnn] at hb)) | fail
  (apply f_panic; iterate 6 (· simp only [go_sem, *]; try rfl))
  exact hb
 | true =>
  have d3 : (Lib.trimS a digs == []) = true := by rw [beq_iff_eq]; exact htn.2 h3
  have hat := fun S' => atoi w0 S' a (valO a : Nat) (by omega) (atoiO h1 h3)
  have hco := fun S' => oColParse w0 hS hG S' t (by omega)
  have hno : numO a = if 255 < valO a then none else some (valO a) := by
   unfold numO
   by_cases hv : 255 < valO a
   ·rw [if_pos (.inr (.inr (.inr hv))), if_pos hv]
   ·rw [if_neg (by rintro (e | e | e | e); exact h1 e; omega; rw [h3] at e; cases e; exact hv e), if_neg hv]
  generalize Lib.trimS a digs = u at htr d3
  by_cases hv : 255 < valO a
  ·rw [if_pos hv] at hno
   have hb := bad (by rw [hno])
   have d4 : decide ((valO a : Int) ≤ 255) = false := by simp; omega
   generalize (valO a : Int) = v at hat d4
   clear bad h hq hs hal htl h1 h2 h3 htn hS hG hno hv
   cases hc : colP t with
   | none =>
    rw [hc] at hco
    unfold cpV at hco
    simp only at hco
    clear hc
    refine en Tryz.func204 rfl Tryz.ntmps204 fun hO => ?_
    repeat' first | refine st ?_ | (refine ca ?_; first | apply ht | apply htr | apply hat | apply hco | apply hmT | apply hmF) | (refine br ?_ ?_; all_goals (intro hb; try simp only [bnn] at hb)) | fail
    (apply f_panic; iterate 6 (· simp only [go_sem, *]; try rfl))
    exact hb
   | some c =>
    rw [hc] at hco
    unfold cpV at hco
    simp only at hco
    clear hc
    refine en Tryz.func204 rfl Tryz.ntmps204 fun hO => ?_
    repeat' first | refine st ?_ | (refine ca ?_; first | apply ht | apply htr | apply hat | apply hco | apply hmT | apply hmF) | (refine br ?_ ?_; all_goals (intro hb; try simp only [bnn] at hb)) | fail
    (apply f_panic; iterate 6 (· simp only [go_sem, *]; try rfl))
    exact hb
  ·rw [if_neg hv] at hno
   have d4 : decide ((valO a : Int) ≤ 255) = true := by simp; omega
   rw [hno] at h bad
   generalize valO a = v at hat d4 h bad
   clear hq hs hal htl h1 h2 h3 htn hS hG hno hv
   cases hc : colP t with
   | none =>
    rw [hc] at hco
    have hb := bad (by rw [hc])
    unfold cpV at hco
    simp only at hco
    clear hc bad h
    refine en Tryz.func204 rfl Tryz.ntmps204 fun hO => ?_
    repeat' first | refine st ?_ | (refine ca ?_; first | apply ht | apply htr | apply hat | apply hco | apply hmT | apply hmF) | (refine br ?_ ?_; all_goals (intro hb; try simp only [bnn] at hb)) | fail
    (apply f_panic; iterate 6 (· simp only [go_sem, *]; try rfl))
    exact hb
   | some c =>
    rw [hc] at hco h
    unfold cpV at hco
    simp only at hco
    have h : R (.ret (.agg [.int .i64 45, .int .i64 (v : Int), .int .i64 0, .int .i64 2, .int .i64 (c : Int), .str []])) S := h
    clear hc bad
    refine en Tryz.func204 rfl Tryz.ntmps204 fun hO => ?_
    repeat' first | refine st ?_ | (refine ca ?_; first | apply ht | apply htr | apply hat | apply hco | apply hmT) | (refine br ?_ ?_; all_goals (intro hb; try simp only [bnn] at hb)) | fail
    (apply f_ret; iterate 7 (· simp only [go_sem, *, Tryz.results204]; try rfl))
    exact h
set_option maxHeartbeats 8000000 in
theorem oRead3 (w0 : World) (S : List Blk) (s : List UInt8) (hs : s.length ≤ 8192) (R : Rt) (h : R (rdOut (rd3 s)) S) : ACall Tryz.prog w0 208 [.str s] S R := by
 have ht := fun S' => oTwo w0 S' s (by omega)
 have hmT := oMustT w0
 have hmF := oMustF w0
 unfold rd3 at h
 cases hq : cutO s with
 | none =>
  rw [hq] at h ht
  unfold rdOut at h
  unfold twoV at ht
  unfold noneV at h ht
  clear hq hs hmT hmF
  refine en Tryz.func208 rfl Tryz.ntmps208 fun hO => ?_
  repeat' first | refine st ?_ | (refine ca ?_; first | apply ht) | (refine br ?_ ?_; all_goals (intro hb; try simp only [bnn] at hb)) | fail
  (apply f_panic; iterate 6 (· simp only [go_sem, *]; try rfl))
  exact h
 | some q =>
 obtain ⟨a, t⟩ := q
 obtain ⟨hal, htl⟩ := cut_len hq
 rw [hq] at h ht
 unfold twoV at ht
 simp only at h ht
 have hde := fun S' => oDecode w0 S' t (by omega)
 unfold decW at hde
 unfold noneV at hmF
 by_cases h1 : a = [99]
 ·subst h1
  rw [if_pos rfl] at h
  cases hd : decP t with
  | none =>
   rw [hd] at h hde
   unfold rdOut noneV at h
   simp only at h hde
   clear hd hq hs hal htl hmT
   refine en Tryz.func208 rfl Tryz.ntmps208 fun hO => ?_
   repeat' first | refine st ?_ | (refine ca ?_; first | apply ht | apply hde | apply hmF) | (refine br ?_ ?_; all_goals (intro hb; try simp only [bnn] at hb)) | fail
   (apply f_panic; iterate 6 (· simp only [go_sem, *]; try rfl))
   exact h
  | some c =>
   rw [hd] at h hde
   simp only at h hde
   by_cases hc : c.length ≤ 378
   ·rw [if_pos hc] at h
    have d1 : decide ((c.length : Int) ≤ 378) = true := by simp; omega
    have h : R (.ret (.agg [.int .i64 46, .int .i64 0, .int .i64 0, .int .i64 0, .int .i64 0, .str c])) S := h
    clear hd hq hs hal htl hmF hc
    refine en Tryz.func208 rfl Tryz.ntmps208 fun hO => ?_
    repeat' first | refine st ?_ | (refine ca ?_; first | apply ht | apply hde | apply hmT) | (refine br ?_ ?_; all_goals (intro hb; try simp only [bnn] at hb)) | fail
    (apply f_ret; iterate 7 (· simp only [go_sem, *, Tryz.results208]; try rfl))
    exact h
   ·rw [if_neg hc] at h
    have d1 : decide ((c.length : Int) ≤ 378) = false := by simp; omega
    unfold rdOut noneV at h
    simp only at h
    clear hd hq hs hal htl hmT hc
    refine en Tryz.func208 rfl Tryz.ntmps208 fun hO => ?_
    repeat' first | refine st ?_ | (refine ca ?_; first | apply ht | apply hde | apply hmF) | (refine br ?_ ?_; all_goals (intro hb; try simp only [bnn] at hb)) | fail
    (apply f_panic; iterate 6 (· simp only [go_sem, *]; try rfl))
    exact h
 ·rw [if_neg h1] at h
  have d1 : (a == [99]) = false := by simpa using h1
  unfold rdOut noneV at h
  simp only at h
  cases hd : decP t with
  | none =>
   rw [hd] at hde
   simp only at hde
   clear hd hq hs hal htl hmT h1
   refine en Tryz.func208 rfl Tryz.ntmps208 fun hO => ?_
   repeat' first | refine st ?_ | (refine ca ?_; first | apply ht | apply hde | apply hmF) | (refine br ?_ ?_; all_goals (intro hb; try simp only [bnn] at hb)) | fail
   (apply f_panic; iterate 6 (· simp only [go_sem, *]; try rfl))
   exact h
  | some c =>
   rw [hd] at hde
   simp only at hde
   clear hd hq hs hal htl hmT h1
   refine en Tryz.func208 rfl Tryz.ntmps208 fun hO => ?_
   repeat' first | refine st ?_ | (refine ca ?_; first | apply ht | apply hde | apply hmF) | (refine br ?_ ?_; all_goals (intro hb; try simp only [bnn] at hb)) | fail
   (apply f_panic; iterate 6 (· simp only [go_sem, *]; try rfl))
   exact h
set_option maxHeartbeats 8000000 in
theorem oPrint3 (w0 : World) (S : List Blk) (a : Ac) (hs : a.text.length ≤ 10000000) (hk : a.kind = 46) (R : Rt) (h : R (if a = ⟨46, 0, 0, 0, 0, a.text⟩ ∧ a.text.length ≤ 378 then .ret (.str (53 :: 50 :: 59 :: 99 :: 59 :: encF a.text)) else .panic noneV) S) : ACall Tryz.prog w0 116 [a.av] S R := by
 have hpT := fun S' => oPlainT w0 S' a ⟨a.kind, 0, 0, 0, 0, a.text⟩
 have hpF := fun S' => oPlainF w0 S' a ⟨a.kind, 0, 0, 0, 0, a.text⟩
 have hmT := oMustT w0
 have hmF := oMustF w0
 obtain ⟨k, n, m, ck, cn, t⟩ := a
 simp only at hk hs hpT hpF h
 subst hk
 unfold Ac.av at hpT hpF ⊢
 simp only at hpT hpF ⊢
 unfold noneV at hmF
 by_cases he : (⟨46, n, m, ck, cn, t⟩ : Ac) = ⟨46, 0, 0, 0, 0, t⟩
 ·have hp := fun S' => hpT S' he
  by_cases hl : t.length ≤ 378
  ·rw [if_pos ⟨he, hl⟩] at h
   have d1 : decide ((t.length : Int) ≤ 378) = true := by simp; omega
   have hen := fun S' => oEncode w0 S' t (by omega)
   have hfl : (encF t).length ≤ 1000 := by
    have h1 := encB_len t
    unfold encF padN
    rw [List.length_append, List.length_replicate]
    omega
   have hl5 : 5 + (encF t).length ≤ 9223372036854775807 := by omega
   generalize encF t = E at *
   clear hpT hpF he hl hs hmF hfl
   refine en Tryz.func116 rfl Tryz.ntmps116 fun hO => ?_
   repeat' first | refine st ?_ | (refine ca ?_; first | apply hp | apply hen | apply hmT) | (refine br ?_ ?_; all_goals (intro hb; try simp only [bnn] at hb)) | fail
   (apply f_ret; iterate 7 (· simp only [go_sem, *, Tryz.results116]; try rfl))
   exact h
  ·rw [if_neg (fun e => hl e.2)] at h
   have d1 : decide ((t.length : Int) ≤ 378) = false := by simp; omega
   unfold noneV at h
   clear hpT hpF he hl hs hmT
   refine en Tryz.func116 rfl Tryz.ntmps116 fun hO => ?_
   repeat' first | refine st ?_ | (refine ca ?_; first | apply hp | apply hmF) | (refine br ?_ ?_; all_goals (intro hb; try simp only [bnn] at hb)) | fail
   (apply f_panic; iterate 6 (· simp only [go_sem, *]; try rfl))
   exact h
 ·have hp := fun S' => hpF S' he
  rw [if_neg (fun e => he e.1)] at h
  unfold noneV at h hp
  clear hpT hpF he hs hmT hmF
  refine en Tryz.func116 rfl Tryz.ntmps116 fun hO => ?_
  repeat' first | refine st ?_ | (refine ca ?_; first | apply hp) | (refine br ?_ ?_; all_goals (intro hb; try simp only [bnn] at hb)) | fail
  (apply f_panic; iterate 6 (· simp only [go_sem, *]; try rfl))
  exact h
set_option maxHeartbeats 8000000 in
theorem oPrint2 (w0 : World) (hT : Tab w0) (hD : DeB w0) (hN : Nam w0) (S : List Blk) (a : Ac) (hk : a.kind = 45) (R : Rt)
  (h : R (if a = ⟨45, a.n, 0, 2, a.cn, []⟩ ∧ (0 ≤ a.n ∧ a.n ≤ 255) ∧ (0 ≤ a.cn ∧ a.cn ≤ 16777215) then .ret (.str (52 :: 59 :: (Lib.itoa a.n ++ 59 :: rgbT a.cn.toNat))) else .panic noneV) S) : ACall Tryz.prog w0 114 [a.av] S R := by
 have hpT := fun S' => oPlainT w0 S' a ⟨a.kind, a.n, 0, a.ck, a.cn, []⟩
 have hpF := fun S' => oPlainF w0 S' a ⟨a.kind, a.n, 0, a.ck, a.cn, []⟩
 have hmT := oMustT w0
 have hmF := oMustF w0
 obtain ⟨k, n, m, ck, cn, t⟩ := a
 simp only at hk hpT hpF h
 subst hk
 unfold Ac.av at hpT hpF ⊢
 simp only at hpT hpF ⊢
 unfold noneV at hmF
 by_cases he : (⟨45, n, m, ck, cn, t⟩ : Ac) = ⟨45, n, 0, ck, cn, []⟩
 case neg =>
  have hp := fun S' => hpF S' he
  rw [if_neg (fun e => he (by have h2 := e.1; simp only [Ac.mk.injEq] at h2 ⊢; exact ⟨trivial, trivial, h2.2.2.1, trivial, trivial, h2.2.2.2.2.2⟩))] at h
  unfold noneV at h hp
  clear hpT hpF he hmT hmF hT hD hN
  refine en Tryz.func114 rfl Tryz.ntmps114 fun hO => ?_
  repeat' first | refine st ?_ | (refine ca ?_; first | apply hp) | (refine br ?_ ?_; all_goals (intro hb; try simp only [bnn] at hb)) | fail
  (apply f_panic; iterate 6 (· simp only [go_sem, *]; try rfl))
  exact h
 case pos =>
 have hp := fun S' => hpT S' he
 have hm0 : m = 0 ∧ t = [] := by simp only [Ac.mk.injEq] at he; exact ⟨he.2.2.1, he.2.2.2.2.2⟩
 obtain ⟨rfl, rfl⟩ := hm0
 clear hpT hpF he
 by_cases hc : ck = 2 ∧ colB 2 cn = true
 ·obtain ⟨rfl, hcb⟩ := hc
  have hb : 0 ≤ cn ∧ cn ≤ 16777215 := by simpa [colB, limO] using hcb
  obtain ⟨v, rfl⟩ : ∃ v : Nat, cn = v := ⟨cn.toNat, by omega⟩
  have htx := fun S' => oText w0 hD S' 2 v v (by omega) hcb (fun S' R h => oRgb w0 S' v hcb R h)
  by_cases hn : 0 ≤ n ∧ n ≤ 255
  ·rw [if_pos ⟨rfl, hn, hb⟩] at h
   obtain ⟨u, rfl⟩ : ∃ u : Nat, n = u := ⟨n.toNat, by omega⟩
   have hit := fun S' => itoa w0 hT S' (u : Int) (by omega) (by omega)
   have hil := (itoa_num u (by omega)).2.1
   have d1 : decide ((0 : Int) ≤ (u : Int)) = true := by simp
   have d2 : decide ((u : Int) ≤ 255) = true := by simp; omega
   have hrl : (rgbT v).length = 12 := rfl
   rw [Int.toNat_natCast] at h
   generalize Lib.itoa (u : Int) = I at *
   generalize rgbT v = T at *
   have q1 : 2 + I.length ≤ 9223372036854775807 := by omega
   have q2 : I.length + 1 + 1 + 1 ≤ 9223372036854775807 := by omega
   have q3 : I.length + 3 ≤ 9223372036854775807 := by omega
   have q4 : I.length + 1 + 1 + 1 + T.length ≤ 9223372036854775807 := by omega
   have q5 : I.length + 3 + T.length ≤ 9223372036854775807 := by omega
   clear hcb hb hn hil hrl hmF hT hD hN
   refine en Tryz.func114 rfl Tryz.ntmps114 fun hO => ?_
   repeat' first | apply x_seq | apply x_skip | apply x_block | apply x_exit | apply x_ret | apply x_ops_nil | apply p_blk | apply p_exit_it | apply p_exit_hit | apply p_ret_it | apply p_ret_blk | apply p_panic_it | apply p_panic_blk | apply p_end | (apply p_exit_miss; (· rfl)) | (apply x_region; simp only [List.toList_toArray]) | (apply x_step0; (· rfl); (· simp only [go_sem, *, List.length_append, List.append_assoc]; try rfl); (· rfl); simp only [putA]) | (apply ac_ret; simp only [putA]) | apply ac_panic | (apply x_callA []; (· simp only [go_sem, *, List.length_append, List.append_assoc]; try rfl); (· rfl); (· simp only [go_sem, *, List.length_append, List.append_assoc]; try rfl); (· rfl); (iterate 2 (· simp only [go_sem, *, List.length_append, List.append_assoc]; try rfl)); (first | apply hp | apply htx | apply hit | apply hmT); simp only [afterCall, putA]) | (apply x_panic; (· simp only [go_sem, *, List.length_append, List.append_assoc]; try rfl); (· rfl); (· simp only [go_sem, *, List.length_append, List.append_assoc]; try rfl)) | (apply x_step; (iterate 2 (· simp only [go_sem, *, List.length_append, List.append_assoc]; try rfl)); (· rfl); simp only [putA]) | (apply x_unwanted; (· simp only [go_sem, *, List.length_append, List.append_assoc]; try rfl); (· rfl); simp only [putA]) | (apply x_condT; (· simp only [go_sem, *, List.length_append, List.append_assoc]; try rfl)) | (apply x_condF; (· simp only [go_sem, *, List.length_append, List.append_assoc]; try rfl)) | (apply x_guardS; (· rfl); (fail_if_success (focus (show _ = some true; (· simp only [go_sem, *, List.length_append, List.append_assoc]; try rfl)))); (· simp only [go_sem, *, List.length_append, List.append_assoc]; try rfl); all_goals (intro hb; try simp only [bnn] at hb)) | (apply x_condS; (· simp only [go_sem, *, List.length_append, List.append_assoc]; try rfl); all_goals (intro hb; try simp only [bnn] at hb)) | fail
   (apply f_ret; iterate 7 (· simp only [go_sem, *, Tryz.results114]; try rfl))
   exact h
  ·rw [if_neg (fun e => hn e.2.1)] at h
   unfold noneV at h
   by_cases hn0 : 0 ≤ n
   ·have d1 : decide ((0 : Int) ≤ n) = true := by simpa using hn0
    have d2 : decide (n ≤ 255) = false := by simp; omega
    clear hcb hb hn hn0 hmT hT hD hN
    refine en Tryz.func114 rfl Tryz.ntmps114 fun hO => ?_
    repeat' first | refine st ?_ | (refine ca ?_; first | apply hp | apply htx | apply hmF | apply hmT) | (refine br ?_ ?_; all_goals (intro hb; try simp only [bnn] at hb)) | fail
    (apply f_panic; iterate 6 (· simp only [go_sem, *]; try rfl))
    exact h
   ·have d1 : decide ((0 : Int) ≤ n) = false := by simpa using hn0
    clear hcb hb hn hn0 hmT hT hD hN
    refine en Tryz.func114 rfl Tryz.ntmps114 fun hO => ?_
    repeat' first | refine st ?_ | (refine ca ?_; first | apply hp | apply htx | apply hmF | apply hmT) | (refine br ?_ ?_; all_goals (intro hb; try simp only [bnn] at hb)) | fail
    (apply f_panic; iterate 6 (· simp only [go_sem, *]; try rfl))
    exact h
 ·have htx := fun S' R (h : ∀ x e, (((e : Int) == 0) && ((ck : Int) == 2)) = false → R (.ret (.tup [.str x, .int .i64 e])) S') => oTextX w0 hD hN S' ck cn R (fun e1 e2 => absurd ⟨e1, e2⟩ hc) (fun x e _ e2 => h x e e2)
  rw [if_neg (fun e => hc (by
   have h2 := e.1
   simp only [Ac.mk.injEq] at h2
   refine ⟨h2.2.2.2.1, ?_⟩
   have := e.2.2
   simp [colB, limO]
   exact this))] at h
  unfold noneV at h
  clear hc hT hD hN
  refine en Tryz.func114 rfl Tryz.ntmps114 fun hO => ?_
  repeat' first | refine st ?_ | (refine ca ?_; first | apply hp | apply htx) | (refine br ?_ ?_; all_goals (intro hb; try simp only [bnn] at hb)) | fail
  intro x e hxe
  cases h1 : ((e : Int) == 0) with
  | false =>
   clear hxe
   repeat' first | refine st ?_ | (refine ca ?_; first | apply hmF) | (refine br ?_ ?_; all_goals (intro hb; try simp only [bnn] at hb)) | fail
   (apply f_panic; iterate 6 (· simp only [go_sem, *]; try rfl))
   exact h
  | true =>
   have h2 : ((ck : Int) == 2) = false := by rw [h1] at hxe; simpa using hxe
   clear hxe
   repeat' first | refine st ?_ | (refine ca ?_; first | apply hmF) | (refine br ?_ ?_; all_goals (intro hb; try simp only [bnn] at hb)) | fail
   (apply f_panic; iterate 6 (· simp only [go_sem, *]; try rfl))
   exact h
def prOut : Option (List UInt8) → AOut
 | some s => .ret (.str s)
 | none => .panic noneV
def prM : List (AV × AV) := [(.int .i64 44, .fn (.func 111) [] []), (.int .i64 45, .fn (.func 114) [] []), (.int .i64 46, .fn (.func 116) [] [])]
def rdM : List (AV × AV) := [(.str [48], .fn (.func 203) [] []), (.str [50], .fn (.func 203) [] []), (.str [52], .fn (.func 204) [] []), (.str [53, 50], .fn (.func 208) [] [])]
set_option maxHeartbeats 4000000 in
theorem oPrints (w0 : World) (S : List Blk) (R : Rt) (h : R (.ret (.mval prM)) S) : ACall Tryz.prog w0 51 [] S R := by
 unfold prM at h
 refine en Tryz.func51 rfl Tryz.ntmps51 fun hO => ?_
 repeat' first | refine st ?_ | (refine br ?_ ?_; all_goals (intro hb; try simp only [bnn] at hb)) | fail
 (apply f_ret; iterate 7 (· simp only [go_sem, *, Tryz.results51]; try rfl))
 exact h
set_option maxHeartbeats 4000000 in
theorem oReads (w0 : World) (S : List Blk) (R : Rt) (h : R (.ret (.mval rdM)) S) : ACall Tryz.prog w0 136 [] S R := by
 unfold rdM at h
 refine en Tryz.func136 rfl Tryz.ntmps136 fun hO => ?_
 repeat' first | refine st ?_ | (refine br ?_ ?_; all_goals (intro hb; try simp only [bnn] at hb)) | fail
 (apply f_ret; iterate 7 (· simp only [go_sem, *, Tryz.results136]; try rfl))
 exact h
theorem pr44 {a : Ac} (h : a.kind = 44) : printO a = if a = ⟨44, 0, 0, 0, 0, a.text⟩ ∧ titleB a.text = true then some (50 :: 59 :: a.text) else none := by
 unfold printO
 split
 ·rfl
 ·rw [if_neg (fun e => by rw [e.1] at h; cases h), if_neg (fun e => by rw [e.1] at h; cases h)]
theorem pr45 {a : Ac} (h : a.kind = 45) : printO a = if a = ⟨45, a.n, 0, 2, a.cn, []⟩ ∧ (0 ≤ a.n ∧ a.n ≤ 255) ∧ (0 ≤ a.cn ∧ a.cn ≤ 16777215) then some (52 :: 59 :: (Lib.itoa a.n ++ 59 :: rgbT a.cn.toNat)) else none := by
 unfold printO
 rw [if_neg (fun e => by rw [e.1] at h; cases h)]
 split
 ·rfl
 ·rw [if_neg (fun e => by rw [e.1] at h; cases h)]
theorem pr46 {a : Ac} (h : a.kind = 46) : printO a = if a = ⟨46, 0, 0, 0, 0, a.text⟩ ∧ a.text.length ≤ 378 then some (53 :: 50 :: 59 :: 99 :: 59 :: encF a.text) else none := by
 unfold printO
 rw [if_neg (fun e => by rw [e.1] at h; cases h), if_neg (fun e => by rw [e.1] at h; cases h)]
theorem prNo {a : Ac} (h1 : a.kind ≠ 44) (h2 : a.kind ≠ 45) (h3 : a.kind ≠ 46) : printO a = none := by
 unfold printO
 rw [if_neg (fun e => h1 (by rw [e.1])), if_neg (fun e => h2 (by rw [e.1])), if_neg (fun e => h3 (by rw [e.1]))]
set_option maxHeartbeats 8000000 in
theorem oPrintC (w0 : World) (hT : Tab w0) (hD : DeB w0) (hN : Nam w0) (S : List Blk) (a : Ac) (i : Nat) (ha : S[i]? = some (.cells [.int .i64 a.kind, .int .i64 a.n, .int .i64 a.m, .int .i64 a.ck, .int .i64 a.cn, .str a.text])) (hs : a.text.length ≤ 10000000) (R : Rt) (h : R (prOut (printO a)) S) : ACall Tryz.prog w0 50 [.own i 0] S R := by
 have hm := oPrints w0
 unfold prM at hm
 have hmT := oMustT w0
 have hmF := oMustF w0
 unfold noneV at hmF
 by_cases h4 : a.kind = 44
 ·have hp := fun S' => oPrint1 w0 S' a hs h4
  rw [pr44 h4] at h
  by_cases hc : a = ⟨44, 0, 0, 0, 0, a.text⟩ ∧ titleB a.text = true
  ·rw [if_pos hc] at h
   simp only [if_pos hc] at hp
   clear hc hs hT hD hN
   obtain ⟨k, n, m, ck, cn, t⟩ := a
   simp only at h4 ha h hp
   subst h4
   unfold Ac.av at hp
   unfold prOut at h
   simp only at hp h
   refine en Tryz.func50 rfl Tryz.ntmps50 fun hO => ?_
   repeat' first | refine st ?_ | (refine ca ?_; first | apply hm | apply hmT | apply hp) | (refine br ?_ ?_; all_goals (intro hb; try simp only [bnn] at hb)) | refine sd ?_ | apply pl_nil | (apply c_end; (· decide +kernel)) | refine bd ?_ ?_ | (refine cd ?_; first | apply hm | apply hmT | apply hp) | fail
   all_goals (apply f_ret; iterate 7 (· simp only [go_sem, *, Tryz.results50]; try rfl))
   all_goals exact h
  ·rw [if_neg hc] at h
   simp only [if_neg hc] at hp
   clear hc hs hT hD hN
   obtain ⟨k, n, m, ck, cn, t⟩ := a
   simp only at h4 ha h hp
   subst h4
   unfold Ac.av noneV at hp
   unfold prOut noneV at h
   simp only at hp h
   refine en Tryz.func50 rfl Tryz.ntmps50 fun hO => ?_
   repeat' first | refine st ?_ | (refine ca ?_; first | apply hm | apply hmT | apply hp) | (refine br ?_ ?_; all_goals (intro hb; try simp only [bnn] at hb)) | refine sd ?_ | apply pl_nil | (apply c_end; (· decide +kernel)) | refine bd ?_ ?_ | (refine cd ?_; first | apply hm | apply hmT | apply hp) | fail
   all_goals (apply f_panic; iterate 6 (· simp only [go_sem, *]; try rfl))
   all_goals exact h
 by_cases h5 : a.kind = 45
 ·have hp := fun S' => oPrint2 w0 hT hD hN S' a h5
  rw [pr45 h5] at h
  by_cases hc : a = ⟨45, a.n, 0, 2, a.cn, []⟩ ∧ (0 ≤ a.n ∧ a.n ≤ 255) ∧ (0 ≤ a.cn ∧ a.cn ≤ 16777215)
  ·rw [if_pos hc] at h
   simp only [if_pos hc] at hp
   clear hc hs hT hD hN h4
   obtain ⟨k, n, m, ck, cn, t⟩ := a
   simp only at h5 ha h hp
   subst h5
   unfold Ac.av at hp
   unfold prOut at h
   simp only at hp h
   generalize (52 :: 59 :: (Lib.itoa n ++ 59 :: rgbT cn.toNat)) = T at hp h
   refine en Tryz.func50 rfl Tryz.ntmps50 fun hO => ?_
   repeat' first | refine st ?_ | (refine ca ?_; first | apply hm | apply hmT | apply hp) | (refine br ?_ ?_; all_goals (intro hb; try simp only [bnn] at hb)) | refine sd ?_ | apply pl_nil | (apply c_end; (· decide +kernel)) | refine bd ?_ ?_ | (refine cd ?_; first | apply hm | apply hmT | apply hp) | fail
   all_goals (apply f_ret; iterate 7 (· simp only [go_sem, *, Tryz.results50]; try rfl))
   all_goals exact h
  ·rw [if_neg hc] at h
   simp only [if_neg hc] at hp
   clear hc hs hT hD hN h4
   obtain ⟨k, n, m, ck, cn, t⟩ := a
   simp only at h5 ha h hp
   subst h5
   unfold Ac.av noneV at hp
   unfold prOut noneV at h
   simp only at hp h
   refine en Tryz.func50 rfl Tryz.ntmps50 fun hO => ?_
   repeat' first | refine st ?_ | (refine ca ?_; first | apply hm | apply hmT | apply hp) | (refine br ?_ ?_; all_goals (intro hb; try simp only [bnn] at hb)) | refine sd ?_ | apply pl_nil | (apply c_end; (· decide +kernel)) | refine bd ?_ ?_ | (refine cd ?_; first | apply hm | apply hmT | apply hp) | fail
   all_goals (apply f_panic; iterate 6 (· simp only [go_sem, *]; try rfl))
   all_goals exact h
 by_cases h6 : a.kind = 46
 ·have hp := fun S' => oPrint3 w0 S' a hs h6
  rw [pr46 h6] at h
  by_cases hc : a = ⟨46, 0, 0, 0, 0, a.text⟩ ∧ a.text.length ≤ 378
  ·rw [if_pos hc] at h
   simp only [if_pos hc] at hp
   clear hc hs hT hD hN h4 h5
   obtain ⟨k, n, m, ck, cn, t⟩ := a
   simp only at h6 ha h hp
   subst h6
   unfold Ac.av at hp
   unfold prOut at h
   simp only at hp h
   generalize (53 :: 50 :: 59 :: 99 :: 59 :: encF t) = T at hp h
   refine en Tryz.func50 rfl Tryz.ntmps50 fun hO => ?_
   repeat' first | refine st ?_ | (refine ca ?_; first | apply hm | apply hmT | apply hp) | (refine br ?_ ?_; all_goals (intro hb; try simp only [bnn] at hb)) | refine sd ?_ | apply pl_nil | (apply c_end; (· decide +kernel)) | refine bd ?_ ?_ | (refine cd ?_; first | apply hm | apply hmT | apply hp) | fail
   all_goals (apply f_ret; iterate 7 (· simp only [go_sem, *, Tryz.results50]; try rfl))
   all_goals exact h
  ·rw [if_neg hc] at h
   simp only [if_neg hc] at hp
   clear hc hs hT hD hN h4 h5
   obtain ⟨k, n, m, ck, cn, t⟩ := a
   simp only at h6 ha h hp
   subst h6
   unfold Ac.av noneV at hp
   unfold prOut noneV at h
   simp only at hp h
   refine en Tryz.func50 rfl Tryz.ntmps50 fun hO => ?_
   repeat' first | refine st ?_ | (refine ca ?_; first | apply hm | apply hmT | apply hp) | (refine br ?_ ?_; all_goals (intro hb; try simp only [bnn] at hb)) | refine sd ?_ | apply pl_nil | (apply c_end; (· decide +kernel)) | refine bd ?_ ?_ | (refine cd ?_; first | apply hm | apply hmT | apply hp) | fail
   all_goals (apply f_panic; iterate 6 (· simp only [go_sem, *]; try rfl))
   all_goals exact h
 ·rw [prNo h4 h5 h6] at h
  unfold prOut noneV at h
  simp only at h
  have b4 : (a.kind == 44) = false := by simpa using h4
  have b5 : (a.kind == 45) = false := by simpa using h5
  have b6 : (a.kind == 46) = false := by simpa using h6
  clear hs hT hD hN h4 h5 h6
  obtain ⟨k, n, m, ck, cn, t⟩ := a
  simp only at ha b4 b5 b6
  refine en Tryz.func50 rfl Tryz.ntmps50 fun hO => ?_
  repeat' first | refine st ?_ | (refine ca ?_; first | apply hm | apply hmF) | (refine br ?_ ?_; all_goals (intro hb; try simp only [bnn] at hb)) | refine sd ?_ | apply pl_nil | (apply c_end; (· decide +kernel)) | refine bd ?_ ?_ | (refine cd ?_; first | apply hm | apply hmF) | fail
  all_goals (apply f_panic; iterate 6 (· simp only [go_sem, *]; try rfl))
  all_goals exact h
theorem drun_mk {P : Program} {w0 : World} {g : FuncId} {args : List AV} {rv : AV} {S : List Blk} {K : List Blk → Prop} {G : Func} {id : Nat} {o0 : Oper} {l : List Oper} {rest : Code} {ty : TypeId} {d : Nat} (env1 : Env) (S1 : List Blk) (h1 : P.funcs[g]? = some G) (h2 : (G.name == "runtime.NumGoroutine") = false)
  (h3 : G.body = some (.seq (.region id (o0 :: l).toArray false) rest)) (h4 : o0.op = .call ⟨.builtin .recover, #[], #[]⟩) (h5 : o0.guard = none) (h6 : o0.type = ty) (h7 : o0.dst = some d) (h8 : d < G.ntmps) (h9 : args.length ≤ G.ntmps) (h10 : G.ntmps ≤ DS) (h11 : G.results = #[])
  (h12 : runOps P w0 (o0 :: l).toArray G.ntmps l (upd (env0 args) d rv) S = some (env1, S1))
  (h13 : RunX P w0 S.length G.ntmps none [.it (.code rest)] (fun x env S' => (x = .normal ∨ x = .ret) ∧ env DS = .dfr [] ∧ okOuter S.length S S' ∧ K (S'.take S.length)) .normal env1 S1) : DRun P w0 g args rv S K :=
 ⟨G, id, o0, l, rest, ty, d, env1, S1, h1, h2, h3, h4, h5, h6, h7, h8, h9, h10, h11, h12, h13⟩
theorem dsN (w0 : World) (S : List Blk) (K : List Blk → Prop) (h : K S) : DRun Tryz.prog w0 110 [] .inil S K := by
 refine drun_mk (upd (upd (env0 []) 1 .inil) 0 .inil) S Tryz.func110 (by decide +kernel) rfl rfl rfl rfl rfl (by decide) (by rw [Tryz.ntmps110]; simp) (by rw [Tryz.ntmps110]; decide) rfl ?_ ?_
 ·rfl
 ·rw [Tryz.ntmps110]
  repeat' first | refine st ?_ | (refine br ?_ ?_; all_goals (intro hb; try simp only [bnn] at hb)) | fail
  exact ⟨.inl rfl, by (simp only [go_sem, *]; try rfl), fun _ _ _ e => .inl e, by rw [List.take_length]; exact h⟩
theorem dsP (w0 : World) (S : List Blk) (K : List Blk → Prop) (h : K S) : DRun Tryz.prog w0 110 [] noneV S K := by
 refine drun_mk (upd (upd (env0 []) 1 noneV) 0 noneV) S Tryz.func110 (by decide +kernel) rfl rfl rfl rfl rfl (by decide) (by rw [Tryz.ntmps110]; simp) (by rw [Tryz.ntmps110]; decide) rfl ?_ ?_
 ·rfl
 ·rw [Tryz.ntmps110]
  repeat' first | apply x_seq | apply x_skip | apply x_block | apply x_exit | apply x_ret | apply x_ops_nil | apply p_blk | apply p_exit_it | apply p_exit_hit | apply p_ret_it | apply p_ret_blk | apply p_panic_it | apply p_panic_blk | apply p_end | (apply p_exit_miss; (· rfl)) | (apply x_region; simp only [List.toList_toArray]) | (apply x_step0; (· rfl); (· simp only [go_sem, *, noneV]; try rfl); (· rfl); simp only [putA]) | (apply ac_ret; simp only [putA]) | apply ac_panic | (apply x_panic; (· simp only [go_sem, *, noneV]; try rfl); (· rfl); (· simp only [go_sem, *, noneV]; try rfl)) | (apply x_step; (iterate 2 (· simp only [go_sem, *, noneV]; try rfl)); (· rfl); simp only [putA]) | (apply x_unwanted; (· simp only [go_sem, *, noneV]; try rfl); (· rfl); simp only [putA]) | (apply x_condT; (· simp only [go_sem, *, noneV]; try rfl)) | (apply x_condF; (· simp only [go_sem, *, noneV]; try rfl)) | (apply x_guardS; (· rfl); (fail_if_success (focus (show _ = some true; (· simp only [go_sem, *, noneV]; try rfl)))); (· simp only [go_sem, *, noneV]; try rfl); all_goals (intro hb; try simp only [bnn] at hb)) | (apply x_condS; (· simp only [go_sem, *, noneV]; try rfl); all_goals (intro hb; try simp only [bnn] at hb)) | fail
  exact ⟨.inl rfl, by (simp only [go_sem, *]; try rfl), fun _ _ _ e => .inl e, by rw [List.take_length]; exact h⟩
def dnV : Option (List UInt8) → AV
 | some s => .tup [.str s, .bool true]
 | none => .tup [.str [], .bool false]
set_option maxHeartbeats 2000000 in
theorem oDoneS (w0 : World) (S : List Blk) (i : Nat) (cs : List AV) (ha : S[i]? = some (.cells cs)) (o : Option (List UInt8)) (hC : ∀ R : AOut → List Blk → Prop, R (prOut o) S → ACall Tryz.prog w0 50 [.own i 0] S R) (R : Rt) (h : R (.ret (dnV o)) S) : ACall Tryz.prog w0 49 [.fn (.func 50) [] [.own i 0]] S R := by
 refine enterD Tryz.func49 rfl (by decide +kernel) (by rw [Tryz.ntmps49]; simp) (by rw [Tryz.ntmps49]; decide) (fun hO => ?_); rw [Tryz.ntmps49]
 cases o with
 | none =>
  unfold dnV at h
  unfold prOut at hC
  simp only at h hC
  unfold noneV at hC
  repeat' first | refine st ?_ | (refine br ?_ ?_; all_goals (intro hb; try simp only [bnn] at hb)) | fail
  apply x_defer
  ·(simp only [go_sem, *]; try rfl)
  ·rfl
  ·(simp only [go_sem, *]; try rfl)
  ·(simp only [go_sem, *]; try rfl)
  ·rfl
  simp only [putA]
  repeat' first | refine st ?_ | (refine ca ?_; first | apply hC) | (refine br ?_ ?_; all_goals (intro hb; try simp only [bnn] at hb)) | fail
  refine ⟨_, _, _, by (simp only [go_sem, *]; try rfl), dsP w0 _ _ ?_⟩
  refine ⟨[.str [], .bool false], by (simp only [go_sem, *, Tryz.results49]; try rfl), fun _ _ _ e => .inl e, by (simp only [go_sem, *]; try rfl), ?_⟩
  rw [List.take_length]
  exact h
 | some s =>
  unfold dnV at h
  unfold prOut at hC
  simp only at h hC
  repeat' first | refine st ?_ | (refine br ?_ ?_; all_goals (intro hb; try simp only [bnn] at hb)) | fail
  apply x_defer
  ·(simp only [go_sem, *]; try rfl)
  ·rfl
  ·(simp only [go_sem, *]; try rfl)
  ·(simp only [go_sem, *]; try rfl)
  ·rfl
  simp only [putA]
  repeat' first | refine st ?_ | (refine ca ?_; first | apply hC) | (refine br ?_ ?_; all_goals (intro hb; try simp only [bnn] at hb)) | fail
  refine ⟨_, _, _, by (simp only [go_sem, *]; try rfl), dsN w0 _ _ ?_⟩
  refine ⟨[.str s, .bool true], by (simp only [go_sem, *, Tryz.results49]; try rfl), fun _ _ _ e => .inl e, by (simp only [go_sem, *]; try rfl), ?_⟩
  rw [List.take_length]
  exact h
theorem oPrintX (w0 : World) (hT : Tab w0) (hD : DeB w0) (hN : Nam w0) (S : List Blk) (a : Ac) (hs : a.text.length ≤ 10000000) (R : Rt) (h : R (.ret (printV (printO a))) S) : ACall Tryz.prog w0 28 [a.av] S R := by
 have hc := fun S' i ha => oPrintC w0 hT hD hN S' a i ha hs
 have hd := fun S' i ha => oDoneS w0 S' i [.int .i64 a.kind, .int .i64 a.n, .int .i64 a.m, .int .i64 a.ck, .int .i64 a.cn, .str a.text] ha (printO a) (hc S' i ha)
 obtain ⟨k, n, m, ck, cn, t⟩ := a
 unfold Ac.av
 simp only at hd ⊢
 clear hc hT hD hN hs
 generalize printO ⟨k, n, m, ck, cn, t⟩ = o at hd h
 unfold dnV at hd
 unfold printV at h
 cases o with
 | none =>
  simp only at hd h
  refine en Tryz.func28 rfl Tryz.ntmps28 fun hO => ?_
  repeat' first | refine st ?_ | (refine ca ?_; first | (apply hd; (· simp only [go_sem, *]; try rfl))) | (refine br ?_ ?_; all_goals (intro hb; try simp only [bnn] at hb)) | fail
  (apply f_ret; iterate 7 (· simp only [go_sem, *, Tryz.results28]; try rfl))
  exact h
 | some s =>
  simp only at hd h
  refine en Tryz.func28 rfl Tryz.ntmps28 fun hO => ?_
  repeat' first | refine st ?_ | (refine ca ?_; first | (apply hd; (· simp only [go_sem, *]; try rfl))) | (refine br ?_ ?_; all_goals (intro hb; try simp only [bnn] at hb)) | fail
  (apply f_ret; iterate 7 (· simp only [go_sem, *, Tryz.results28]; try rfl))
  exact h
theorem printOk (w0 : World) (hT : Tab w0) (hD : DeB w0) (hN : Nam w0) : PrintOk w0 := fun S a ha R h => oPrintX w0 hT hD hN S a (by omega) R h
def rd1 (s : List UInt8) : Option Ac := if titleB s then some ⟨44, 0, 0, 0, 0, s⟩ else none
theorem oRead1X (w0 : World) (S : List Blk) (s : List UInt8) (hs : s.length ≤ 10000000) (R : Rt) (h : R (rdOut (rd1 s)) S) : ACall Tryz.prog w0 203 [.str s] S R := by
 refine oRead1 w0 S s hs R ?_
 unfold rd1 at h
 cases hb : titleB s with
 | true => rw [hb] at h; exact h
 | false => rw [hb] at h; exact h
theorem parse_cut {s k r : List UInt8} (h1 : ¬ 512 < s.length) (h2 : cutO s = some (k, r)) : parseO s = if k = [48] ∨ k = [50] then rd1 r else if k = [52] then rd2 r else if k = [53, 50] then rd3 r else none := by
 unfold parseO
 rw [if_neg h1, h2]
 simp only
 unfold rd1 rd2 rd3
 rfl
set_option maxHeartbeats 8000000 in
theorem oParseC (w0 : World) (hS : Syn w0) (hG : Rng w0) (S : List Blk) (s : List UInt8) (i : Nat) (ha : S[i]? = some (.cells [.str s])) (hs : s.length ≤ 8192) (R : Rt) (h : R (rdOut (parseO s)) S) : ACall Tryz.prog w0 134 [.own i 0] S R := by
 have hm := oReads w0
 unfold rdM at hm
 have hmT := oMustT w0
 have hmF := oMustF w0
 unfold noneV at hmF
 have hal := (List.getElem?_eq_some_iff.1 ha).1
 have ha1 : ∀ L : List Blk, (S ++ L)[i]? = some (.cells [.str s]) := fun L => by rw [List.getElem?_append_left hal]; exact ha
 clear hal
 by_cases h5 : 512 < s.length
 ·have d1 : decide ((s.length : Int) ≤ 512) = false := by simp; omega
  have e : parseO s = none := by unfold parseO; rw [if_pos h5]
  rw [e] at h
  unfold rdOut noneV at h
  simp only at h
  clear h5 e hS hG hs hmT
  refine en Tryz.func134 rfl Tryz.ntmps134 fun hO => ?_
  repeat' first | refine st ?_ | (refine ca ?_; first | apply hmF) | (refine br ?_ ?_; all_goals (intro hb; try simp only [bnn] at hb)) | fail
  (apply f_panic; iterate 6 (· simp only [go_sem, *]; try rfl))
  exact h
 have d1 : decide ((s.length : Int) ≤ 512) = true := by simp; omega
 have ht := fun S' => oTwo w0 S' s (by omega)
 cases hq : cutO s with
 | none =>
  have e : parseO s = none := by unfold parseO; rw [if_neg h5, hq]
  rw [e] at h
  rw [hq] at ht
  unfold rdOut noneV at h
  unfold twoV noneV at ht
  simp only at h ht
  clear h5 e hS hG hs hmF hq
  refine en Tryz.func134 rfl Tryz.ntmps134 fun hO => ?_
  repeat' first | refine st ?_ | (refine ca ?_; first | apply ht | apply hmT) | (refine br ?_ ?_; all_goals (intro hb; try simp only [bnn] at hb)) | fail
  (apply f_panic; iterate 6 (· simp only [go_sem, *]; try rfl))
  exact h
 | some q =>
 obtain ⟨k, r⟩ := q
 obtain ⟨hkl, hrl⟩ := cut_len hq
 rw [parse_cut h5 hq] at h
 rw [hq] at ht
 unfold twoV at ht
 simp only at ht
 by_cases h0 : k = [48]
 ·subst h0
  rw [if_pos (.inl rfl)] at h
  have hr := fun S' => oRead1X w0 S' r (by omega)
  generalize rd1 r = o at h hr
  clear h5 hq hS hG hs hkl hrl
  unfold rdOut at h hr
  cases o with
  | none =>
   unfold noneV at h hr
   simp only at h hr
   refine en Tryz.func134 rfl Tryz.ntmps134 fun hO => ?_
   repeat' first | refine st ?_ | (refine ca ?_; first | apply ht | apply hmT | apply hm | apply hr) | (refine br ?_ ?_; all_goals (intro hb; try simp only [bnn] at hb)) | fail
   (apply f_panic; iterate 6 (· simp only [go_sem, *]; try rfl))
   exact h
  | some a =>
   obtain ⟨ak, an, am, ac, ad, at'⟩ := a
   unfold Ac.av at h hr
   simp only at h hr
   refine en Tryz.func134 rfl Tryz.ntmps134 fun hO => ?_
   repeat' first | refine st ?_ | (refine ca ?_; first | apply ht | apply hmT | apply hm | apply hr) | (refine br ?_ ?_; all_goals (intro hb; try simp only [bnn] at hb)) | fail
   (apply f_ret; iterate 7 (· simp only [go_sem, *, Tryz.results134]; try rfl))
   exact h
 by_cases h2 : k = [50]
 ·subst h2
  rw [if_pos (.inr rfl)] at h
  have hr := fun S' => oRead1X w0 S' r (by omega)
  generalize rd1 r = o at h hr
  clear h5 hq hS hG hs hkl hrl
  unfold rdOut at h hr
  cases o with
  | none =>
   unfold noneV at h hr
   simp only at h hr
   refine en Tryz.func134 rfl Tryz.ntmps134 fun hO => ?_
   repeat' first | refine st ?_ | (refine ca ?_; first | apply ht | apply hmT | apply hm | apply hr) | (refine br ?_ ?_; all_goals (intro hb; try simp only [bnn] at hb)) | fail
   (apply f_panic; iterate 6 (· simp only [go_sem, *]; try rfl))
   exact h
  | some a =>
   obtain ⟨ak, an, am, ac, ad, at'⟩ := a
   unfold Ac.av at h hr
   simp only at h hr
   refine en Tryz.func134 rfl Tryz.ntmps134 fun hO => ?_
   repeat' first | refine st ?_ | (refine ca ?_; first | apply ht | apply hmT | apply hm | apply hr) | (refine br ?_ ?_; all_goals (intro hb; try simp only [bnn] at hb)) | fail
   (apply f_ret; iterate 7 (· simp only [go_sem, *, Tryz.results134]; try rfl))
   exact h
 by_cases h4 : k = [52]
 ·subst h4
  rw [if_neg (by decide), if_pos rfl] at h
  have hr := fun S' => oRead2 w0 hS hG S' r (by omega)
  generalize rd2 r = o at h hr
  clear h5 hq hS hG hs hkl hrl
  unfold rdOut at h hr
  cases o with
  | none =>
   unfold noneV at h hr
   simp only at h hr
   refine en Tryz.func134 rfl Tryz.ntmps134 fun hO => ?_
   repeat' first | refine st ?_ | (refine ca ?_; first | apply ht | apply hmT | apply hm | apply hr) | (refine br ?_ ?_; all_goals (intro hb; try simp only [bnn] at hb)) | fail
   (apply f_panic; iterate 6 (· simp only [go_sem, *]; try rfl))
   exact h
  | some a =>
   obtain ⟨ak, an, am, ac, ad, at'⟩ := a
   unfold Ac.av at h hr
   simp only at h hr
   refine en Tryz.func134 rfl Tryz.ntmps134 fun hO => ?_
   repeat' first | refine st ?_ | (refine ca ?_; first | apply ht | apply hmT | apply hm | apply hr) | (refine br ?_ ?_; all_goals (intro hb; try simp only [bnn] at hb)) | fail
   (apply f_ret; iterate 7 (· simp only [go_sem, *, Tryz.results134]; try rfl))
   exact h
 by_cases h52 : k = [53, 50]
 ·subst h52
  rw [if_neg (by decide), if_neg (by decide), if_pos rfl] at h
  have hr := fun S' => oRead3 w0 S' r (by omega)
  generalize rd3 r = o at h hr
  clear h5 hq hS hG hs hkl hrl
  unfold rdOut at h hr
  cases o with
  | none =>
   unfold noneV at h hr
   simp only at h hr
   refine en Tryz.func134 rfl Tryz.ntmps134 fun hO => ?_
   repeat' first | refine st ?_ | (refine ca ?_; first | apply ht | apply hmT | apply hm | apply hr) | (refine br ?_ ?_; all_goals (intro hb; try simp only [bnn] at hb)) | fail
   (apply f_panic; iterate 6 (· simp only [go_sem, *]; try rfl))
   exact h
  | some a =>
   obtain ⟨ak, an, am, ac, ad, at'⟩ := a
   unfold Ac.av at h hr
   simp only at h hr
   refine en Tryz.func134 rfl Tryz.ntmps134 fun hO => ?_
   repeat' first | refine st ?_ | (refine ca ?_; first | apply ht | apply hmT | apply hm | apply hr) | (refine br ?_ ?_; all_goals (intro hb; try simp only [bnn] at hb)) | fail
   (apply f_ret; iterate 7 (· simp only [go_sem, *, Tryz.results134]; try rfl))
   exact h
 ·rw [if_neg (by rintro (e | e) <;> contradiction), if_neg h4, if_neg h52] at h
  have b0 : (k == [48]) = false := by simpa using h0
  have b2 : (k == [50]) = false := by simpa using h2
  have b4 : (k == [52]) = false := by simpa using h4
  have b5 : (k == [53, 50]) = false := by simpa using h52
  unfold rdOut noneV at h
  simp only at h
  clear h0 h2 h4 h52 h5 hq hS hG hs hkl hrl
  refine en Tryz.func134 rfl Tryz.ntmps134 fun hO => ?_
  repeat' first | refine st ?_ | (refine ca ?_; first | apply ht | apply hmT | apply hm | apply hmF) | (refine br ?_ ?_; all_goals (intro hb; try simp only [bnn] at hb)) | fail
  (apply f_panic; iterate 6 (· simp only [go_sem, *]; try rfl))
  exact h
theorem daN (w0 : World) (S : List Blk) (K : List Blk → Prop) (h : K S) : DRun Tryz.prog w0 201 [] .inil S K := by
 refine drun_mk (upd (upd (env0 []) 1 .inil) 0 .inil) S Tryz.func201 (by decide +kernel) rfl rfl rfl rfl rfl (by decide) (by rw [Tryz.ntmps201]; simp) (by rw [Tryz.ntmps201]; decide) rfl ?_ ?_
 ·rfl
 ·rw [Tryz.ntmps201]
  repeat' first | refine st ?_ | (refine br ?_ ?_; all_goals (intro hb; try simp only [bnn] at hb)) | fail
  exact ⟨.inl rfl, by (simp only [go_sem, *]; try rfl), fun _ _ _ e => .inl e, by rw [List.take_length]; exact h⟩
theorem daP (w0 : World) (S : List Blk) (K : List Blk → Prop) (h : K S) : DRun Tryz.prog w0 201 [] noneV S K := by
 refine drun_mk (upd (upd (env0 []) 1 noneV) 0 noneV) S Tryz.func201 (by decide +kernel) rfl rfl rfl rfl rfl (by decide) (by rw [Tryz.ntmps201]; simp) (by rw [Tryz.ntmps201]; decide) rfl ?_ ?_
 ·rfl
 ·rw [Tryz.ntmps201]
  repeat' first | apply x_seq | apply x_skip | apply x_block | apply x_exit | apply x_ret | apply x_ops_nil | apply p_blk | apply p_exit_it | apply p_exit_hit | apply p_ret_it | apply p_ret_blk | apply p_panic_it | apply p_panic_blk | apply p_end | (apply p_exit_miss; (· rfl)) | (apply x_region; simp only [List.toList_toArray]) | (apply x_step0; (· rfl); (· simp only [go_sem, *, noneV]; try rfl); (· rfl); simp only [putA]) | (apply ac_ret; simp only [putA]) | apply ac_panic | (apply x_panic; (· simp only [go_sem, *, noneV]; try rfl); (· rfl); (· simp only [go_sem, *, noneV]; try rfl)) | (apply x_step; (iterate 2 (· simp only [go_sem, *, noneV]; try rfl)); (· rfl); simp only [putA]) | (apply x_unwanted; (· simp only [go_sem, *, noneV]; try rfl); (· rfl); simp only [putA]) | (apply x_condT; (· simp only [go_sem, *, noneV]; try rfl)) | (apply x_condF; (· simp only [go_sem, *, noneV]; try rfl)) | (apply x_guardS; (· rfl); (fail_if_success (focus (show _ = some true; (· simp only [go_sem, *, noneV]; try rfl)))); (· simp only [go_sem, *, noneV]; try rfl); all_goals (intro hb; try simp only [bnn] at hb)) | (apply x_condS; (· simp only [go_sem, *, noneV]; try rfl); all_goals (intro hb; try simp only [bnn] at hb)) | fail
  exact ⟨.inl rfl, by (simp only [go_sem, *]; try rfl), fun _ _ _ e => .inl e, by rw [List.take_length]; exact h⟩
set_option maxHeartbeats 2000000 in
theorem oDoneA (w0 : World) (S : List Blk) (i : Nat) (cs : List AV) (ha : S[i]? = some (.cells cs)) (o : Option Ac) (hC : ∀ S' (R : Rt), S'[i]? = some (.cells cs) → R (rdOut o) S' → ACall Tryz.prog w0 134 [.own i 0] S' R) (R : Rt) (h : R (.ret (parV o)) S) : ACall Tryz.prog w0 133 [.fn (.func 134) [] [.own i 0]] S R := by
 have hal := (List.getElem?_eq_some_iff.1 ha).1
 have ha1 : ∀ L : List Blk, (S ++ L)[i]? = some (.cells cs) := fun L => by rw [List.getElem?_append_left hal]; exact ha
 clear hal
 refine enterD Tryz.func133 rfl (by decide +kernel) (by rw [Tryz.ntmps133]; simp) (by rw [Tryz.ntmps133]; decide) (fun hO => ?_); rw [Tryz.ntmps133]
 cases o with
 | none =>
  unfold parV zeroA Ac.av at h
  unfold rdOut noneV at hC
  simp only at h hC
  repeat' first | refine st ?_ | (refine br ?_ ?_; all_goals (intro hb; try simp only [bnn] at hb)) | fail
  apply x_defer
  ·(simp only [go_sem, *]; try rfl)
  ·rfl
  ·(simp only [go_sem, *]; try rfl)
  ·(simp only [go_sem, *]; try rfl)
  ·rfl
  simp only [putA]
  repeat' first | refine st ?_ | (refine ca ?_; first | (apply hC; (· simp only [go_sem, *]; try rfl))) | (refine br ?_ ?_; all_goals (intro hb; try simp only [bnn] at hb)) | fail
  refine ⟨_, _, _, by (simp only [go_sem, *]; try rfl), daP w0 _ _ ?_⟩
  refine ⟨[.agg [.int .i64 0, .int .i64 0, .int .i64 0, .int .i64 0, .int .i64 0, .str []], .bool false], by (simp only [go_sem, *, Tryz.results133]; try rfl), okOuter_append _ _, by (simp only [go_sem, *]; try rfl), ?_⟩
  rw [List.take_left]
  exact h
 | some a =>
  obtain ⟨k, n, m, ck, cn, t⟩ := a
  unfold parV Ac.av at h
  unfold rdOut Ac.av at hC
  simp only at h hC
  repeat' first | refine st ?_ | (refine br ?_ ?_; all_goals (intro hb; try simp only [bnn] at hb)) | fail
  apply x_defer
  ·(simp only [go_sem, *]; try rfl)
  ·rfl
  ·(simp only [go_sem, *]; try rfl)
  ·(simp only [go_sem, *]; try rfl)
  ·rfl
  simp only [putA]
  repeat' first | refine st ?_ | (refine ca ?_; first | (apply hC; (· simp only [go_sem, *]; try rfl))) | (refine br ?_ ?_; all_goals (intro hb; try simp only [bnn] at hb)) | fail
  refine ⟨_, _, _, by (simp only [go_sem, *]; try rfl), daN w0 _ _ ?_⟩
  refine ⟨[.agg [.int .i64 k, .int .i64 n, .int .i64 m, .int .i64 ck, .int .i64 cn, .str t], .bool true], by (simp only [go_sem, *, Tryz.results133]; try rfl), okOuter_append _ _, by (simp only [go_sem, *]; try rfl), ?_⟩
  rw [List.take_left]
  exact h
theorem parseOk (w0 : World) (hS : Syn w0) (hG : Rng w0) : ParseOk w0 := by
 intro S s hs R h
 have hc := fun S' i R ha => oParseC w0 hS hG S' s i ha hs R
 have hd := fun S' i ha => oDoneA w0 S' i [.str s] ha (parseO s) (fun S2 R ha2 h2 => hc S2 i R ha2 h2)
 clear hc hS hG hs
 generalize parseO s = o at hd h
 unfold parV at hd h
 cases o with
 | none =>
  unfold zeroA Ac.av at hd h
  simp only at hd h
  refine en Tryz.func74 rfl Tryz.ntmps74 fun hO => ?_
  repeat' first | refine st ?_ | (refine ca ?_; first | (apply hd; (· simp only [go_sem, *]; try rfl))) | (refine br ?_ ?_; all_goals (intro hb; try simp only [bnn] at hb)) | fail
  (apply f_ret; iterate 7 (· simp only [go_sem, *, Tryz.results74]; try rfl))
  exact h
 | some a =>
  obtain ⟨k, n, m, ck, cn, t⟩ := a
  unfold Ac.av at hd h
  simp only at hd h
  refine en Tryz.func74 rfl Tryz.ntmps74 fun hO => ?_
  repeat' first | refine st ?_ | (refine ca ?_; first | (apply hd; (· simp only [go_sem, *]; try rfl))) | (refine br ?_ ?_; all_goals (intro hb; try simp only [bnn] at hb)) | fail
  (apply f_ret; iterate 7 (· simp only [go_sem, *, Tryz.results74]; try rfl))
  exact h
def numF (k : Int) : Option (Sp × Sp) := (numT.find? fun p => k == p.1).map (·.2)
def actOk (a : Ac) : Bool :=
 if a.kind = 1 then decide (0 ≤ widthOf a.n) && (a.m == 0 && (plainC a.ck a.cn && a.text == []))
 else if a.kind = 39 then penOk a
 else if a.kind = 44 ∨ a.kind = 45 ∨ a.kind = 46 then (printO a).isSome
 else match numF a.kind with
  | some (x, y) => x.ok a.n && (y.ok a.m && (plainC a.ck a.cn && a.text == []))
  | none => false
theorem aAc (w0 : World) (S : List Blk) (k n m : Int) (R : Rt) (h : R (.ret (.agg [.int .i64 k, .int .i64 n, .int .i64 m, .int .i64 0, .int .i64 0, .str []])) S) : ACall Tryz.prog w0 26 [.int .i64 k, .int .i64 n, .int .i64 m] S R := by
 refine en Tryz.func26 rfl Tryz.ntmps26 fun hO => ?_
 repeat' first | refine st ?_ | (refine br ?_ ?_; all_goals (intro hb; try simp only [bnn] at hb)) | fail
 (apply f_ret; iterate 7 (· simp only [go_sem, *, Tryz.results26]; try rfl))
 exact h
theorem find_num (k : Int) : ∀ l : List (Int × Sp × Sp), (l.map fun p => ((.int .i64 p.1 : AV), (AV.agg [p.2.1.fv, p.2.2.fv]))).find? (fun e => keq (.int .i64 k) e.1) = ((l.find? fun p => k == p.1).map fun p => ((.int .i64 p.1 : AV), (AV.agg [p.2.1.fv, p.2.2.fv])))
 | [] => rfl
 | p :: l => by
  rw [List.map_cons, List.find?_cons, List.find?_cons, find_num k l]
  show (match k == p.1 with | true => _ | false => _) = _
  cases k == p.1 <;> rfl
theorem num_rng {k : Int} {x y : Sp} (h : numF k = some (x, y)) : ∃ c d, y = .rng c d := by
 unfold numF at h
 obtain ⟨p, hp, e⟩ := Option.map_eq_some_iff.1 h
 have hall : (numT.all fun p => match p.2.2 with | .rng _ _ => true | .zt => false) = true := by decide
 have := List.all_eq_true.1 hall p (List.mem_of_find?_eq_some hp)
 rw [e] at this
 cases y with
 | rng c d => exact ⟨c, d, rfl⟩
 | zt => cases this
theorem kinds5 (k : Int) : k = 1 ∨ k = 39 ∨ (k = 44 ∨ k = 45 ∨ k = 46) ∨ ((k == 1) = false ∧ (k == 39) = false ∧ (k == 44) = false ∧ (k == 45) = false ∧ (k == 46) = false) := by
 simp only [beq_eq_false_iff_ne]
 omega
theorem find_some {k : Int} {x y : Sp} (h : numF k = some (x, y)) : ∃ j : Int, numE.find? (fun e => keq (.int .i64 k) e.1) = some (.int .i64 j, .agg [x.fv, y.fv]) := by
 unfold numF at h
 obtain ⟨⟨j, x', y'⟩, hp, e⟩ := Option.map_eq_some_iff.1 h
 cases e
 exact ⟨j, by unfold numE; rw [find_num, hp]; rfl⟩
theorem find_none {k : Int} (h : numF k = none) : numE.find? (fun e => keq (.int .i64 k) e.1) = none := by
 unfold numF at h
 have := Option.map_eq_none_iff.1 h
 unfold numE
 rw [find_num, this]; rfl
theorem act_1 (n m ck cn : Int) (t : List UInt8) : actOk ⟨1, n, m, ck, cn, t⟩ = (decide (0 ≤ widthOf n) && (m == 0 && (plainC ck cn && t == []))) := rfl
theorem act_39 (n m ck cn : Int) (t : List UInt8) : actOk ⟨39, n, m, ck, cn, t⟩ = penOk ⟨39, n, m, ck, cn, t⟩ := rfl
theorem act_osc {k : Int} (hk : k = 44 ∨ k = 45 ∨ k = 46) (n m ck cn : Int) (t : List UInt8) : actOk ⟨k, n, m, ck, cn, t⟩ = (printO ⟨k, n, m, ck, cn, t⟩).isSome := by
 unfold actOk
 rw [if_neg (by simp only; omega), if_neg (by simp only; omega), if_pos hk]
def numOk (k n m ck cn : Int) (t : List UInt8) : Option (Sp × Sp) → Bool
 | some (x, y) => x.ok n && (y.ok m && (plainC ck cn && t == []))
 | none => false
theorem act_num {k : Int} (c1 : (k == 1) = false) (c2 : (k == 39) = false) (c3 : (k == 44) = false) (c4 : (k == 45) = false) (c5 : (k == 46) = false) (n m ck cn : Int) (t : List UInt8) : actOk ⟨k, n, m, ck, cn, t⟩ = numOk k n m ck cn t (numF k) := by
 simp only [beq_eq_false_iff_ne] at c1 c2 c3 c4 c5
 unfold actOk
 rw [if_neg (by simp only; omega), if_neg (by simp only; omega), if_neg (by simp only; omega)]
 unfold numOk
 cases numF k <;> rfl
set_option maxHeartbeats 40000000 in
theorem aCheck (w0 : World) (hM : MarksOk w0) (hW : WidesOk w0) (hQ : PrintOk w0) (S : List Blk) (a : Ac) (hm : I64 a.m) (ht : a.text.length ≤ 10000) (R : Rt) (h : R (.ret (.int .i64 (if actOk a then 0 else 200))) S) : ACall Tryz.prog w0 11 [a.av] S R := by
 have hpen := fun S' => sCheckPen w0 S' a hm
 have hpr := fun S' => hQ S' a ht
 rw [printV_eq] at hpr
 obtain ⟨k, n, m, ck, cn, t⟩ := a
 have hwd := fun S' => wOf w0 hM hW S' n
 have hac := aAc w0
 have hb0 : ∀ l : List UInt8, (l == l) = true := by simp
 have hb1 : ∀ i : Int, (i == i) = true := by simp
 simp only at hm ht
 rcases kinds5 k with rfl | rfl | hk | ⟨c1, c2, c3, c4, c5⟩
 ·rw [act_1] at h
  have e0 : decide (0 ≤ widthOf n) = !decide (widthOf n < 0) := by rw [Bool.eq_iff_iff]; simp
  rw [e0] at h
  generalize widthOf n = w at h hwd
  unfold Ac.av
  simp only
  clear hpen hpr hQ hM hW hm ht e0
  cases hdw : decide (w < 0)
  all_goals
   refine en Tryz.func11 rfl Tryz.ntmps11 fun hO => ?_
   repeat' first | refine st ?_ | (refine ca ?_; first | apply hwd | apply hac) | (refine br ?_ ?_; all_goals (intro hb; try simp only [bnn] at hb)) | refine sd ?_ | apply pl_nil | (apply c_end; (· decide +kernel)) | refine bd ?_ ?_ | (refine cd ?_; first | apply hwd | apply hac) | fail
   all_goals (apply f_ret; iterate 7 (· simp only [go_sem, *, Tryz.results11]; try rfl))
  all_goals
   refine (congrArg (fun z => R (.ret (.int .i64 z)) S) (?_ : _ = _)).mpr h
   clear h hO hwd hac
   simp_all [plainC]
 ·rw [act_39] at h
  generalize penOk ⟨39, n, m, ck, cn, t⟩ = b at h hpen
  unfold Ac.av at hpen ⊢
  simp only at hpen ⊢
  clear hwd hac hpr hQ hM hW hm ht
  cases b
  all_goals
   refine en Tryz.func11 rfl Tryz.ntmps11 fun hO => ?_
   repeat' first | refine st ?_ | (refine ca ?_; first | apply hpen) | (refine br ?_ ?_; all_goals (intro hb; try simp only [bnn] at hb)) | fail
   (apply f_ret; iterate 7 (· simp only [go_sem, *, Tryz.results11]; try rfl))
   exact h
 ·have hk1 : (k == 1) = false ∧ (k == 39) = false := by simp only [beq_eq_false_iff_ne]; omega
  rw [act_osc hk] at h
  unfold prE at hpr
  generalize printO ⟨k, n, m, ck, cn, t⟩ = b at h hpr
  generalize prT b = u at hpr
  unfold Ac.av at hpr ⊢
  simp only at hpr ⊢
  clear hwd hac hpen hQ hM hW hm ht
  obtain ⟨k1, k2⟩ := hk1
  cases b
  all_goals
   simp only [Option.isSome_none, Option.isSome_some, Bool.false_eq_true, if_true, if_false] at h hpr
   rcases hk with rfl | rfl | rfl
   all_goals
    clear k1 k2
    refine en Tryz.func11 rfl Tryz.ntmps11 fun hO => ?_
    repeat' first | refine st ?_ | (refine ca ?_; first | apply hpr) | (refine br ?_ ?_; all_goals (intro hb; try simp only [bnn] at hb)) | fail
    (apply f_ret; iterate 7 (· simp only [go_sem, *, Tryz.results11]; try rfl))
    exact h
 ·rw [act_num c1 c2 c3 c4 c5] at h
  have hnu := aNumbers w0
  have h2 := aHas w0
  have h3 := aZt w0
  clear hpen hpr hwd hac hQ hM hW hm ht
  unfold Ac.av
  simp only
  cases ho : numF k with
  | none =>
   have hf := find_none ho
   simp only [go_sem] at hf
   rw [ho] at h
   clear ho h2 h3
   refine en Tryz.func11 rfl Tryz.ntmps11 fun hO => ?_
   repeat' first | refine st ?_ | (refine ca ?_; first | apply hnu) | (refine br ?_ ?_; all_goals (intro hb; try simp only [bnn] at hb)) | refine sd ?_ | apply pl_nil | (apply c_end; (· decide +kernel)) | refine bd ?_ ?_ | (refine cd ?_; first | apply hnu) | fail
   all_goals (apply f_ret; iterate 7 (· simp only [go_sem, *, Tryz.results11]; try rfl))
   all_goals exact h
  | some q =>
   obtain ⟨x, y⟩ := q
   obtain ⟨j, hf⟩ := find_some ho
   obtain ⟨c, d, rfl⟩ := num_rng ho
   simp only [go_sem] at hf
   rw [ho] at h
   clear ho
   rw [show numOk k n m ck cn t (some (x, .rng c d)) = (x.ok n && ((Sp.rng c d).ok m && (plainC ck cn && t == []))) from rfl] at h
   cases x with
   | rng a b =>
    simp only [Sp.fv] at hf
    generalize hu1 : (Sp.rng a b).ok n = u1 at h
    generalize hu2 : (Sp.rng c d).ok m = u2 at h
    have g1 := fun S' => h2 S' a b n
    have g2 := fun S' => h2 S' c d m
    rw [show (decide (a ≤ n) && decide (n ≤ b)) = u1 from hu1] at g1
    rw [show (decide (c ≤ m) && decide (m ≤ d)) = u2 from hu2] at g2
    clear hu1 hu2 h2 h3
    refine en Tryz.func11 rfl Tryz.ntmps11 fun hO => ?_
    refine share ?K1 ?hK1 fun key1 => ?main1
    case main1 =>
     repeat' ((fail_if_success (apply x_stopR 4)); first | refine st ?_ | (refine ca ?_; first | apply hnu) | (refine br ?_ ?_; all_goals (intro hb; try simp only [bnn] at hb)) | refine sd ?_ | apply pl_nil | (apply c_end; (· decide +kernel)) | refine bd ?_ ?_ | (refine cd ?_; first | apply hnu) | fail)
     all_goals
      refine x_gen [1000000, 1, 3, 4, 5] ?_
      simp only [agreeL, go_sem]
      exact key1
    case hK1 =>
     rintro env ⟨e0, e1, e3, e4, e5⟩
     repeat' first | refine st ?_ | (refine ca ?_; first | apply g1 | apply g2) | (refine br ?_ ?_; all_goals (intro hb; try simp only [bnn] at hb)) | fail
     all_goals (apply f_ret; iterate 7 (· simp only [go_sem, *, Tryz.results11]; try rfl))
     all_goals
      refine (congrArg (fun z => R (.ret (.int .i64 z)) S) (?_ : _ = _)).mpr h
      clear h hO g1 g2 hf hnu e0 e1 e3 e4 e5
      simp_all [plainC]
   | zt =>
    simp only [Sp.fv] at hf
    generalize hu1 : Sp.zt.ok n = u1 at h
    generalize hu2 : (Sp.rng c d).ok m = u2 at h
    have g1 := fun S' => h3 S' n
    have g2 := fun S' => h2 S' c d m
    rw [show (n == 0 || n == 3) = u1 from hu1] at g1
    rw [show (decide (c ≤ m) && decide (m ≤ d)) = u2 from hu2] at g2
    clear hu1 hu2 h2 h3
    refine en Tryz.func11 rfl Tryz.ntmps11 fun hO => ?_
    refine share ?K2 ?hK2 fun key1 => ?main2
    case main2 =>
     repeat' ((fail_if_success (apply x_stopR 4)); first | refine st ?_ | (refine ca ?_; first | apply hnu) | (refine br ?_ ?_; all_goals (intro hb; try simp only [bnn] at hb)) | refine sd ?_ | apply pl_nil | (apply c_end; (· decide +kernel)) | refine bd ?_ ?_ | (refine cd ?_; first | apply hnu) | fail)
     all_goals
      refine x_gen [1000000, 1, 3, 4, 5] ?_
      simp only [agreeL, go_sem]
      exact key1
    case hK2 =>
     rintro env ⟨e0, e1, e3, e4, e5⟩
     repeat' first | refine st ?_ | (refine ca ?_; first | apply g1 | apply g2) | (refine br ?_ ?_; all_goals (intro hb; try simp only [bnn] at hb)) | fail
     all_goals (apply f_ret; iterate 7 (· simp only [go_sem, *, Tryz.results11]; try rfl))
     all_goals
      refine (congrArg (fun z => R (.ret (.int .i64 z)) S) (?_ : _ = _)).mpr h
      clear h hO g1 g2 hf hnu e0 e1 e3 e4 e5
      simp_all [plainC]
structure Ev where
 kind : Int
 code : Int
 priv : Nat
 fin : Nat
 pars : List (List Int)
 inter : List UInt8
 text : List UInt8
 deriving DecidableEq
def Ev.av (e : Ev) : AV := .agg [.int .i64 e.kind, .int .i64 e.code, .int .u8 e.priv, .int .u8 e.fin, .sval false (e.pars.map PmV), .str e.inter, .str e.text]
def evOk (e : Ev) : Bool := (decide (1 ≤ e.kind) && decide (e.kind ≤ 6)) && okRow e.pars
set_option maxHeartbeats 4000000 in
theorem aCheckEv (w0 : World) (S : List Blk) (e : Ev) (hl : ShortR e.pars) (R : Rt) (h : R (.ret (.int .i64 (if evOk e then 0 else 201))) S) : ACall Tryz.prog w0 18 [e.av] S R := by
 have hp := fun S' => pCheck w0 S' e.pars hl
 have hh := fun S' => aHas w0 S' 1 6 e.kind
 obtain ⟨k, c, pr, fi, l, it, t⟩ := e
 unfold evOk at h
 unfold parE at hp
 unfold Ev.av
 simp only at h hp hh ⊢ hl
 generalize okRow l = b at h hp
 generalize (decide (1 ≤ k) && decide (k ≤ 6)) = d at h hh
 clear hl
 cases b <;> cases d
 all_goals
  refine en Tryz.func18 rfl Tryz.ntmps18 fun hO => ?_
  repeat' first | refine st ?_ | (refine ca ?_; first | apply hp | apply hh) | (refine br ?_ ?_; all_goals (intro hb; try simp only [bnn] at hb)) | fail
  (apply f_ret; iterate 7 (· simp only [go_sem, *, Tryz.results18]; try rfl))
  exact h
theorem aFirst (w0 : World) (S : List Blk) (l : List (List Int)) (R : Rt) (h : R (.ret (.int .i64 (valP l 0 0))) S) : ACall Tryz.prog w0 146 [.sval false (l.map PmV)] S R := by
 have hv := fun S' R h => (value_any w0 S' l 0 0 R h).1
 refine en Tryz.func146 rfl Tryz.ntmps146 fun hO => ?_
 repeat' first | refine st ?_ | (refine ca ?_; first | apply hv) | (refine br ?_ ?_; all_goals (intro hb; try simp only [bnn] at hb)) | fail
 (apply f_ret; iterate 7 (· simp only [go_sem, *, Tryz.results146]; try rfl))
 exact h
theorem aSecond (w0 : World) (S : List Blk) (l : List (List Int)) (R : Rt) (h : R (.ret (.int .i64 (valP l 1 0))) S) : ACall Tryz.prog w0 149 [.sval false (l.map PmV)] S R := by
 have hv := fun S' R h => (value_any w0 S' l 1 0 R h).1
 refine en Tryz.func149 rfl Tryz.ntmps149 fun hO => ?_
 repeat' first | refine st ?_ | (refine ca ?_; first | apply hv) | (refine br ?_ ?_; all_goals (intro hb; try simp only [bnn] at hb)) | fail
 (apply f_ret; iterate 7 (· simp only [go_sem, *, Tryz.results149]; try rfl))
 exact h
def cntP (l : List (List Int)) : Int := if 1 < valP l 0 0 then valP l 0 0 else 1
theorem aCounted (w0 : World) (S : List Blk) (l : List (List Int)) (R : Rt) (h : R (.ret (.int .i64 (cntP l))) S) : ACall Tryz.prog w0 144 [.sval false (l.map PmV)] S R := by
 have hv := aFirst w0
 unfold cntP at h
 by_cases hc : 1 < valP l 0 0
 ·rw [if_pos hc] at h
  have hc1 : ((1 : Int) < valP l 0 0) = True := eq_true hc
  clear hc
  refine en Tryz.func144 rfl Tryz.ntmps144 fun hO => ?_
  repeat' first | refine st ?_ | (refine ca ?_; first | apply hv) | (refine br ?_ ?_; all_goals (intro hb; try simp only [bnn] at hb)) | fail
  (apply f_ret; iterate 7 (· simp only [go_sem, *, Tryz.results144]; try rfl))
  first | exact h | (simpa using h)
 ·rw [if_neg hc] at h
  have hc1 : ((1 : Int) < valP l 0 0) = False := eq_false hc
  clear hc
  refine en Tryz.func144 rfl Tryz.ntmps144 fun hO => ?_
  repeat' first | refine st ?_ | (refine ca ?_; first | apply hv) | (refine br ?_ ?_; all_goals (intro hb; try simp only [bnn] at hb)) | fail
  (apply f_ret; iterate 7 (· simp only [go_sem, *, Tryz.results144]; try rfl))
  first | exact h | (simpa using h)
def acN (k n m : Int) : Ac := ⟨k, n, m, 0, 0, []⟩
def ctlT : List (Int × Ac) := [(7, acN 2 0 0), (8, acN 3 0 0), (9, acN 4 0 0), (10, acN 5 0 0), (11, acN 5 0 0), (12, acN 5 0 0), (13, acN 6 0 0), (14, acN 7 1 0), (15, acN 7 0 0)]
def ctlF (c : Int) : Option Ac := (ctlT.find? fun p => c == p.1).map (·.2)
structure Wy where
 pv : Nat
 inter : List UInt8
 fn : Nat
 deriving DecidableEq
def Wy.av (w : Wy) : AV := .agg [.int .u8 w.pv, .str w.inter, .int .u8 w.fn]
def bareT : List (Nat × Ac) := [(68, acN 8 0 0), (69, acN 9 0 0), (72, acN 10 0 0), (77, acN 11 0 0), (78, acN 18 2 0), (79, acN 18 3 0), (55, acN 12 0 0), (56, acN 13 0 0), (61, acN 14 1 0), (62, acN 14 0 0), (99, acN 15 0 0)]
def escT : List (Wy × Ac) := (⟨0, [35], 56⟩, acN 16 0 0) :: (bareT.map fun p => (⟨0, [], p.1⟩, p.2)) ++
 [(⟨0, [40], 66⟩, acN 17 0 0), (⟨0, [40], 48⟩, acN 17 0 1), (⟨0, [41], 66⟩, acN 17 1 0), (⟨0, [41], 48⟩, acN 17 1 1), (⟨0, [42], 66⟩, acN 17 2 0), (⟨0, [42], 48⟩, acN 17 2 1), (⟨0, [43], 66⟩, acN 17 3 0), (⟨0, [43], 48⟩, acN 17 3 1)]
def escF (w : Wy) : Option Ac := (escT.find? fun p => w == p.1).map (·.2)
inductive Sq where
 | cnt (k : Int)
 | first (k : Int)
 | way (k n : Int)
 | cursor
 | modes (k bit : Int)
 | ask (n : Int)
 | margins
 | const (k : Int)
 | pens
 | shape
 | askMode (n : Int)
def countsT : List (Nat × Int) := [(71, 22), (96, 22), (100, 23), (73, 24), (90, 25), (64, 28), (80, 29), (88, 30), (76, 31), (77, 32), (98, 34)]
def choicesT : List (Nat × Int) := [(74, 26), (75, 27), (103, 35), (110, 41)]
def waysT : List (Nat × Int × Int) := [(65, 20, 0), (66, 20, 1), (67, 20, 2), (68, 20, 3), (69, 21, 0), (70, 21, 1), (83, 33, 0), (84, 33, 1)]
def seqT : List (Wy × Sq) := (countsT.map fun p => (⟨0, [], p.1⟩, Sq.cnt p.2)) ++ (choicesT.map fun p => (⟨0, [], p.1⟩, Sq.first p.2)) ++ (waysT.map fun p => (⟨0, [], p.1⟩, Sq.way p.2.1 p.2.2)) ++
 [(⟨0, [], 72⟩, .cursor), (⟨0, [], 102⟩, .cursor), (⟨0, [], 108⟩, .modes 36 0), (⟨63, [], 108⟩, .modes 37 0), (⟨0, [], 104⟩, .modes 36 1), (⟨63, [], 104⟩, .modes 37 1), (⟨0, [], 99⟩, .ask 0), (⟨62, [], 99⟩, .ask 1), (⟨0, [], 114⟩, .margins), (⟨0, [], 115⟩, .const 12), (⟨0, [], 117⟩, .const 13), (⟨0, [], 109⟩, .pens),
 (⟨0, [32], 113⟩, .shape), (⟨0, [33], 112⟩, .const 15), (⟨0, [36], 112⟩, .askMode 0), (⟨63, [36], 112⟩, .askMode 1)]
def seqF (w : Wy) : Option Sq := (seqT.find? fun p => w == p.1).map (·.2)
def actV (k n m : Int) : AV := .agg [.int .i64 k, .int .i64 n, .int .i64 m, .int .i64 0, .int .i64 0, .str []]
theorem acN_av (k n m : Int) : (acN k n m).av = actV k n m := rfl
def plainE : List (AV × AV) := ctlT.map fun p => (.int .i64 p.1, p.2.av)
def plainP (m : Nat) : List Fill := [.mk 3, .val 4 (actV 2 0 0), .ent (.int .i64 7) (actV 2 0 0), .val 5 (actV 3 0 0), .ent (.int .i64 8) (actV 3 0 0), .val 6 (actV 4 0 0), .ent (.int .i64 9) (actV 4 0 0), .val 7 (actV 5 0 0), .ent (.int .i64 10) (actV 5 0 0), .val 8 (actV 5 0 0), .ent (.int .i64 11) (actV 5 0 0), .val 9 (actV 5 0 0), .ent (.int .i64 12) (actV 5 0 0),
 .val 10 (actV 6 0 0), .ent (.int .i64 13) (actV 6 0 0), .val 11 (actV 7 1 0), .ent (.int .i64 14) (actV 7 1 0), .val 12 (actV 7 0 0), .ent (.int .i64 15) (actV 7 0 0), .val 13 (.mown m), .val 0 (.mown m)]
set_option maxHeartbeats 40000000 in
theorem aPlain (w0 : World) (S : List Blk) (R : Rt) (h : R (.ret (.mval plainE)) S) : ACall Tryz.prog w0 72 [] S R := by
 have hac := aAc w0
 have H := Lib.hid h
 clear h
 refine en Tryz.func72 rfl Tryz.ntmps72 fun hO => ?_
 repeat' ((fail_if_success (apply x_stopR 2)); first | refine st ?_ | (refine ca ?_; first | apply hac) | (refine br ?_ ?_; all_goals (intro hb; try simp only [bnn] at hb)) | fail)
 refine d_draw (n := 21) mixed rfl ?_
 refine d_fill (plainP (S.length + 1)) 0 (t := 135) (kt := 3) (et := 25) rfl ?ok ?dep ?ty ?ky ?st ?fin
 case ok => kernel_rfl
 case dep => decide +kernel
 case ty => simp only [go_sem]
 case ky => simp [plainP, fillT, keysOk, keq, keq0, keyA, keyB, go_sem]
 case st =>
  refine ⟨?s0, ?s1, ?s2, ?s3, ?s4, ?s5, ?s6, ?s7, ?s8, ?s9, ?s10, ?s11, ?s12, ?s13, ?s14, ?s15, ?s16, ?s17, ?s18, ?s19, ?s20, trivial⟩
  case s0 =>
   intro env hd
   repeat' first | refine st ?_ | (refine br ?_ ?_; all_goals (intro hb; try simp only [bnn] at hb)) | refine sd ?_ | apply pl_nil | (apply c_end; (· decide +kernel)) | refine bd ?_ ?_ | fail
   first | exact ⟨trivial, trivial⟩ | (constructor <;> first | rfl | trivial | simp)
  case s1 =>
   intro env S' hd hS
   clear hd hS
   repeat' first | refine st ?_ | (refine ca ?_; first | apply hac) | (refine br ?_ ?_; all_goals (intro hb; try simp only [bnn] at hb)) | refine sd ?_ | apply pl_nil | (apply c_end; (· decide +kernel)) | refine bd ?_ ?_ | (refine cd ?_; first | apply hac) | fail
   first | exact ⟨trivial, trivial⟩ | (constructor <;> first | rfl | trivial | simp)
  case s2 =>
   exact ⟨_, _, _, _, rfl, rfl, rfl, .inr rfl, fun env hd => ⟨hd.1 0 (by decide +kernel) _ rfl _ rfl, rfl, hd.1 1 (by decide +kernel) _ rfl _ rfl⟩⟩
  case s3 =>
   intro env S' hd hS
   clear hd hS
   repeat' first | refine st ?_ | (refine ca ?_; first | apply hac) | (refine br ?_ ?_; all_goals (intro hb; try simp only [bnn] at hb)) | refine sd ?_ | apply pl_nil | (apply c_end; (· decide +kernel)) | refine bd ?_ ?_ | (refine cd ?_; first | apply hac) | fail
   first | exact ⟨trivial, trivial⟩ | (constructor <;> first | rfl | trivial | simp)
  case s4 =>
   exact ⟨_, _, _, _, rfl, rfl, rfl, .inr rfl, fun env hd => ⟨hd.1 0 (by decide +kernel) _ rfl _ rfl, rfl, hd.1 3 (by decide +kernel) _ rfl _ rfl⟩⟩
  case s5 =>
   intro env S' hd hS
   clear hd hS
   repeat' first | refine st ?_ | (refine ca ?_; first | apply hac) | (refine br ?_ ?_; all_goals (intro hb; try simp only [bnn] at hb)) | refine sd ?_ | apply pl_nil | (apply c_end; (· decide +kernel)) | refine bd ?_ ?_ | (refine cd ?_; first | apply hac) | fail
   first | exact ⟨trivial, trivial⟩ | (constructor <;> first | rfl | trivial | simp)
  case s6 =>
   exact ⟨_, _, _, _, rfl, rfl, rfl, .inr rfl, fun env hd => ⟨hd.1 0 (by decide +kernel) _ rfl _ rfl, rfl, hd.1 5 (by decide +kernel) _ rfl _ rfl⟩⟩
  case s7 =>
   intro env S' hd hS
   have q1 := hd.2 1 rfl
   simp only [go_sem] at q1
   clear hd
   rcases hS with rfl | ⟨es, rfl⟩
   all_goals
    repeat' first | refine st ?_ | (refine br ?_ ?_; all_goals (intro hb; try simp only [bnn] at hb)) | refine sd ?_ | apply pl_nil | (apply c_end; (· decide +kernel)) | refine bd ?_ ?_ | fail
    first | exact ⟨trivial, trivial⟩ | (constructor <;> first | rfl | trivial | simp)
  case s8 =>
   exact ⟨_, _, _, _, rfl, rfl, rfl, .inr rfl, fun env hd => ⟨hd.1 0 (by decide +kernel) _ rfl _ rfl, rfl, hd.1 7 (by decide +kernel) _ rfl _ rfl⟩⟩
  case s9 =>
   intro env S' hd hS
   have q1 := hd.2 1 rfl
   simp only [go_sem] at q1
   clear hd
   rcases hS with rfl | ⟨es, rfl⟩
   all_goals
    repeat' first | refine st ?_ | (refine br ?_ ?_; all_goals (intro hb; try simp only [bnn] at hb)) | refine sd ?_ | apply pl_nil | (apply c_end; (· decide +kernel)) | refine bd ?_ ?_ | fail
    first | exact ⟨trivial, trivial⟩ | (constructor <;> first | rfl | trivial | simp)
  case s10 =>
   exact ⟨_, _, _, _, rfl, rfl, rfl, .inr rfl, fun env hd => ⟨hd.1 0 (by decide +kernel) _ rfl _ rfl, rfl, hd.1 9 (by decide +kernel) _ rfl _ rfl⟩⟩
  case s11 =>
   intro env S' hd hS
   have q1 := hd.2 1 rfl
   simp only [go_sem] at q1
   clear hd
   rcases hS with rfl | ⟨es, rfl⟩
   all_goals
    repeat' first | refine st ?_ | (refine br ?_ ?_; all_goals (intro hb; try simp only [bnn] at hb)) | refine sd ?_ | apply pl_nil | (apply c_end; (· decide +kernel)) | refine bd ?_ ?_ | fail
    first | exact ⟨trivial, trivial⟩ | (constructor <;> first | rfl | trivial | simp)
  case s12 =>
   exact ⟨_, _, _, _, rfl, rfl, rfl, .inr rfl, fun env hd => ⟨hd.1 0 (by decide +kernel) _ rfl _ rfl, rfl, hd.1 11 (by decide +kernel) _ rfl _ rfl⟩⟩
  case s13 =>
   intro env S' hd hS
   clear hd hS
   repeat' first | refine st ?_ | (refine ca ?_; first | apply hac) | (refine br ?_ ?_; all_goals (intro hb; try simp only [bnn] at hb)) | refine sd ?_ | apply pl_nil | (apply c_end; (· decide +kernel)) | refine bd ?_ ?_ | (refine cd ?_; first | apply hac) | fail
   first | exact ⟨trivial, trivial⟩ | (constructor <;> first | rfl | trivial | simp)
  case s14 =>
   exact ⟨_, _, _, _, rfl, rfl, rfl, .inr rfl, fun env hd => ⟨hd.1 0 (by decide +kernel) _ rfl _ rfl, rfl, hd.1 13 (by decide +kernel) _ rfl _ rfl⟩⟩
  case s15 =>
   intro env S' hd hS
   clear hd hS
   repeat' first | refine st ?_ | (refine ca ?_; first | apply hac) | (refine br ?_ ?_; all_goals (intro hb; try simp only [bnn] at hb)) | refine sd ?_ | apply pl_nil | (apply c_end; (· decide +kernel)) | refine bd ?_ ?_ | (refine cd ?_; first | apply hac) | fail
   first | exact ⟨trivial, trivial⟩ | (constructor <;> first | rfl | trivial | simp)
  case s16 =>
   exact ⟨_, _, _, _, rfl, rfl, rfl, .inr rfl, fun env hd => ⟨hd.1 0 (by decide +kernel) _ rfl _ rfl, rfl, hd.1 15 (by decide +kernel) _ rfl _ rfl⟩⟩
  case s17 =>
   intro env S' hd hS
   clear hd hS
   repeat' first | refine st ?_ | (refine ca ?_; first | apply hac) | (refine br ?_ ?_; all_goals (intro hb; try simp only [bnn] at hb)) | refine sd ?_ | apply pl_nil | (apply c_end; (· decide +kernel)) | refine bd ?_ ?_ | (refine cd ?_; first | apply hac) | fail
   first | exact ⟨trivial, trivial⟩ | (constructor <;> first | rfl | trivial | simp)
  case s18 =>
   exact ⟨_, _, _, _, rfl, rfl, rfl, .inr rfl, fun env hd => ⟨hd.1 0 (by decide +kernel) _ rfl _ rfl, rfl, hd.1 17 (by decide +kernel) _ rfl _ rfl⟩⟩
  case s19 =>
   intro env S' hd hS
   have q1 := hd.1 0 (by decide +kernel) _ rfl _ rfl
   simp only [Fill.out, go_sem] at q1
   clear hd hS
   repeat' first | refine st ?_ | (refine br ?_ ?_; all_goals (intro hb; try simp only [bnn] at hb)) | refine sd ?_ | apply pl_nil | (apply c_end; (· decide +kernel)) | refine bd ?_ ?_ | fail
   first | exact ⟨trivial, trivial⟩ | (constructor <;> first | rfl | trivial | simp)
  case s20 =>
   intro env S' hd hS
   have q1 := hd.1 19 (by decide +kernel) _ rfl _ rfl
   simp only [Fill.out, go_sem] at q1
   clear hd hS
   repeat' first | refine st ?_ | (refine br ?_ ?_; all_goals (intro hb; try simp only [bnn] at hb)) | refine sd ?_ | apply pl_nil | (apply c_end; (· decide +kernel)) | refine bd ?_ ?_ | fail
   first | exact ⟨trivial, trivial⟩ | (constructor <;> first | rfl | trivial | simp)
 case fin =>
  intro env hs hk
  have q0 := hs 20 _ rfl _ rfl
  have q5 := hk 1000000 rfl
  clear hs hk
  simp only [Fill.out, go_sem] at q0 q5
  simp only [plainP, fillT, List.map_cons, List.map_nil]
  repeat' first | refine st ?_ | (refine br ?_ ?_; all_goals (intro hb; try simp only [bnn] at hb)) | fail
  (apply f_ret; iterate 7 (· simp only [go_sem, *, Tryz.results72]; try rfl))
  exact H.out
def bareA : List (AV × AV) := bareT.map fun p => (.int .u8 p.1, p.2.av)
def escA : List (AV × AV) := escT.map fun p => (p.1.av, p.2.av)
def fE (e : AV × AV) : AV × AV := (.agg [.int .u8 0, .str [], e.1], e.2)
def hashE : AV × AV := (.agg [.int .u8 0, .str [35], .int .u8 56], actV 16 0 0)
theorem bare_mem {e : AV × AV} (h : e ∈ bareA) : ∃ (n : Int) (k a m : Int), e = (.int .u8 n, actV k a m) := by
 unfold bareA at h
 obtain ⟨⟨n, x⟩, hp, rfl⟩ := List.mem_map.1 h
 have : ∃ k a m, x = acN k a m := by
  simp only [bareT, List.mem_cons, List.not_mem_nil, or_false, Prod.mk.injEq] at hp
  rcases hp with ⟨_, rfl⟩ | ⟨_, rfl⟩ | ⟨_, rfl⟩ | ⟨_, rfl⟩ | ⟨_, rfl⟩ | ⟨_, rfl⟩ | ⟨_, rfl⟩ | ⟨_, rfl⟩ | ⟨_, rfl⟩ | ⟨_, rfl⟩ | ⟨_, rfl⟩
  all_goals exact ⟨_, _, _, rfl⟩
 obtain ⟨k, a, m, rfl⟩ := this
 exact ⟨n, k, a, m, rfl⟩
theorem bare_nodup : (bareA.map Prod.fst).Nodup := by
 simp [bareA, bareT]
theorem ltP_ent {es : List (AV × AV)} (h : ∀ x ∈ es, ∃ k a j q m, x = (.int k a, actV j q m)) (n : Nat) : ltP n es = true := by
 rw [ltP_iff]
 intro x hx
 obtain ⟨k, a, j, q, m, rfl⟩ := h x hx
 exact ⟨rfl, rfl⟩
theorem ltP_entA {es : List (AV × AV)} (h : ∀ x ∈ es, ∃ a s b j q m, x = (.agg [.int .u8 a, .str s, .int .u8 b], actV j q m)) (n : Nat) : ltP n es = true := by
 rw [ltP_iff]
 intro x hx
 obtain ⟨k, a, j, q, m, _, rfl⟩ := h x hx
 exact ⟨rfl, rfl⟩
theorem way_key (a : Int) (s : List UInt8) (b : Int) : keyA Tryz.prog 140 (.agg [.int .u8 a, .str s, .int .u8 b]) = true := by
 simp [keyA, keyB, keyFs, go_sem]
theorem bare_new {vis rest : List (AV × AV)} {e : AV × AV} (hp : bareA.Perm (vis ++ e :: rest)) : (fE e).1 ∉ (hashE :: vis.map fE).map Prod.fst := by
 have h1 := (hp.map Prod.fst).nodup_iff.1 bare_nodup
 rw [List.map_append, List.nodup_append] at h1
 rw [List.map_cons, List.map_map]
 intro hm
 rcases List.mem_cons.1 hm with hm | hm
 ·have := congrArg (fun x => match x with | AV.agg [_, AV.str s, _] => s | _ => []) hm
  simp [fE, hashE] at this
 ·obtain ⟨x, hx, he⟩ := List.mem_map.1 hm
  have hxe : x.1 = e.1 := by
   simp only [Function.comp_def, fE, AV.agg.injEq, List.cons.injEq, true_and, and_true] at he
   exact he
  exact h1.2.2 _ (List.mem_map.2 ⟨x, hx, rfl⟩) _ (List.mem_map.2 ⟨e, List.mem_cons_self .., rfl⟩) hxe
set_option maxHeartbeats 40000000 in
theorem aEscapes (w0 : World) (S : List Blk) (R : Rt) (h : R (.ret (.mval escA)) S) : ACall Tryz.prog w0 73 [] S R := by
 have hac := aAc w0
 have H := Lib.hid h
 have Hac := Lib.hid hac
 clear h
 refine en Tryz.func73 rfl Tryz.ntmps73 fun hO => ?_
 repeat' ((fail_if_success (apply x_stopR 3)); first | refine st ?_ | (refine ca ?_; first | apply hac) | (refine br ?_ ?_; all_goals (intro hb; try simp only [bnn] at hb)) | fail)
 refine x_mark (S.length + 1) (by (simp only [go_sem, *]; try rfl)) ?_
 repeat' first | refine st ?_ | (refine br ?_ ?_; all_goals (intro hb; try simp only [bnn] at hb)) | fail
 refine x_ind (fun (p : Option (AV × AV) × List (AV × AV) × List (AV × AV)) env S' => bareA.Perm (p.2.1 ++ p.2.2) ∧ (∀ n, (Blk.mit p.1 []).ltB n = true) ∧ env 1000000 = .dfr [] ∧ env 1 = .mown S.length ∧ env 25 = .own (S.length + 2) 0 ∧
  S' = S ++ [.mp false (hashE :: p.2.1.map fE), .mp true bareA, .mit p.1 p.2.2]) (fun p => p.2.2.length) (none, [], bareA) ?_ ?_
 ·exact ⟨.refl _, fun _ => rfl, by (simp only [go_sem, *]; try rfl), by (simp only [go_sem, *]; try rfl), by (simp only [go_sem, *]; try rfl), rfl⟩
 ·rintro ⟨cur, vis, rest⟩ env S' ⟨hp, hcur, e0, e1, e25, rfl⟩ IH
  have HI := Lib.hid IH
  have HP := Lib.hid hp
  have HO := Lib.hid hO
  clear IH hp hac
  simp only at hcur
  repeat' first | refine st ?_ | (refine br ?_ ?_; all_goals (intro hb; try simp only [bnn] at hb)) | fail
  apply x_nextM
  ·(simp only [go_sem, *]; try rfl)
  ·rfl
  ·(simp only [go_sem, *]; try rfl)
  ·(simp only [go_sem, *]; try rfl)
  ·rfl
  ·intro hr
   have hp := HP.out
   rw [hr, List.append_nil] at hp
   subst hr
   simp only [putA]
   refine x_mperm S.length (es' := hashE :: bareA.map fE) (by (simp only [go_sem, *]; try rfl)) ((hp.symm.map fE).cons hashE) (by (simp only [go_sem, *]; try rfl)) ?_
   simp only [bareA, bareT, List.map_cons, List.map_nil, fE, hashE, Ac.av, acN, actV, Int.cast_ofNat_Int]
   have Hac2 := Hac.out
   clear hp HI HP
   repeat' first | refine st ?_ | (refine ca ?_; first | apply Hac2) | (refine br ?_ ?_; all_goals (intro hb; try simp only [bnn] at hb)) | apply x_loop | apply x_lp | fail
   (apply f_ret; iterate 7 (· simp only [go_sem, *, Tryz.results73]; try rfl))
   exact H.out
  ·intro e rest' hr
   have hp : bareA.Perm (vis ++ e :: rest') := HP.out.trans (List.Perm.append_left _ hr)
   have hnew := bare_new hp
   obtain ⟨n, k, a, m, rfl⟩ := bare_mem (hp.mem_iff.2 (List.mem_append_right _ (List.mem_cons_self ..)))
   have hkeys : ∀ x ∈ hashE :: vis.map fE, ∃ a s b j q m, x = (.agg [.int .u8 a, .str s, .int .u8 b], actV j q m) := by
    intro x hx
    rcases List.mem_cons.1 hx with rfl | hx
    ·exact ⟨_, _, _, _, _, _, rfl⟩
    ·obtain ⟨y, hy, rfl⟩ := List.mem_map.1 hx
     obtain ⟨n, k, a, m, rfl⟩ := bare_mem (hp.mem_iff.2 (List.mem_append_left _ hy))
     exact ⟨_, _, _, _, _, _, rfl⟩
   have HN := Lib.hid hnew
   have HK := Lib.hid hkeys
   have HP2 := Lib.hid hp
   have HR := Lib.hid hr
   have HL1 := Lib.hid (ltP_entA (es := (hashE :: vis.map fE) ++ [(.agg [.int .u8 0, .str [], .int .u8 n], actV k a m)]) (by
    intro x hx
    rcases List.mem_append.1 hx with hx | hx
    ·exact hkeys x hx
    ·simp at hx; subst hx; exact ⟨_, _, _, _, _, _, rfl⟩))
   have HL2 := Lib.hid (ltP_ent (es := rest') (by
    intro x hx
    obtain ⟨n, k, a, m, rfl⟩ := bare_mem (hp.mem_iff.2 (List.mem_append_right _ (List.mem_cons_of_mem _ hx)))
    exact ⟨_, _, _, _, _, rfl⟩))
   have HL3 := Lib.hid (ltP_ent (es := bareA) (by
    intro x hx
    obtain ⟨n, k, a, m, rfl⟩ := bare_mem hx
    exact ⟨_, _, _, _, _, rfl⟩))
   clear hp hnew hkeys hr
   simp only [putA, actV]
   repeat' first | refine st ?_ | (refine br ?_ ?_; all_goals (intro hb; try simp only [bnn] at hb)) | fail
   have hka : ∀ x ∈ hashE :: vis.map fE, keyA Tryz.prog 140 x.1 = true := by
    intro x hx
    obtain ⟨a, s, b, _, _, _, rfl⟩ := HK.out x hx
    exact way_key a s b
   have hkk := way_key 0 [] n
   apply x_put
   ·(simp only [go_sem, *]; try rfl)
   ·rfl
   ·(simp only [go_sem, *]; try rfl)
   ·(simp only [go_sem, *]; try rfl)
   ·(simp only [go_sem, *]; try rfl)
   ·(simp only [go_sem, *]; try rfl)
   ·(simp only [go_sem, *]; try rfl)
   ·exact hkk
   ·exact List.all_eq_true.2 hka
   ·exact keq_of_mem hkk hka HN.out
   ·rfl
   ·(simp only [go_sem, *]; try rfl)
   clear hka hkk
   simp only [putA]
   repeat' first | refine st ?_ | (refine br ?_ ?_; all_goals (intro hb; try simp only [bnn] at hb)) | fail
   refine x_keep HO.out 3 [1, 25] rfl (by (simp only [go_sem, *]; try rfl)) (by (simp only [go_sem, *]; try rfl)) ?_ ?_
   ·have l1 := HL1.out
    have l2 := HL2.out
    have l3 := HL3.out
    simp only [actV, List.cons_append] at l1
    (simp only [go_sem, *]; try rfl)
   simp only [List.take_succ_cons, List.take_zero]
   refine HI.out (some (.int .u8 n, actV k a m), vis ++ [(.int .u8 n, actV k a m)], rest') _ _ ?_ ⟨?_, ?_, ?_, ?_, ?_, ?_⟩
   ·have := HR.out.length_eq; simp at this ⊢; omega
   ·simpa using HP2.out
   ·intro n; rfl
   ·(simp only [go_sem, *]; try rfl)
   ·(simp only [go_sem, *]; try rfl)
   ·(simp only [go_sem, *]; try rfl)
   ·simp [fE, actV]
def oneV (f : AV) : AV := .fn (.func 139) [] [.pro [f]]
def sqV : Sq → AV
 | .cnt k => oneV (.fn (.func 143) [] [.pro [.int .i64 k]])
 | .first k => oneV (.fn (.func 145) [] [.pro [.int .i64 k]])
 | .way k n => oneV (.fn (.func 147) [] [.pro [.int .i64 k, .int .i64 n, .int .i64 0, .int .i64 0, .int .i64 0, .str []]])
 | .cursor => oneV (.fn (.func 148) [] [])
 | .modes k bit => .fn (.func 141) [] [.pro [.int .i64 k], .pro [.int .i64 bit]]
 | .ask n => .fn (.func 150) [] [.pro [.int .i64 n]]
 | .margins => oneV (.fn (.func 151) [] [])
 | .const k => oneV (.fn (.func (if k = 12 then 152 else if k = 13 then 153 else 157)) [] [])
 | .pens => .fn (.func 154) [] []
 | .shape => oneV (.fn (.func 156) [] [])
 | .askMode n => oneV (.fn (.func 158) [] [.pro [.int .i64 n]])
def seqA : List (AV × AV) := seqT.map fun p => (p.1.av, sqV p.2)
theorem new_key {base L vis rest : List (AV × AV)} {e : AV × AV} {f : AV × AV → AV × AV} (hn : ((base ++ L.map f).map Prod.fst).Nodup) (hp : L.Perm (vis ++ e :: rest)) : (f e).1 ∉ (base ++ vis.map f).map Prod.fst := by
 have h1 := (((hp.map f).append_left base).map Prod.fst).nodup_iff.1 hn
 rw [show base ++ List.map f (vis ++ e :: rest) = (base ++ vis.map f) ++ f e :: rest.map f by simp, List.map_append, List.map_cons, List.nodup_append] at h1
 intro hm
 exact h1.2.2 _ hm _ (List.mem_cons_self ..) rfl
theorem aOne (w0 : World) (S : List Blk) (g : FuncId) (cap : List AV) (hp : plainL cap = true) (hl : ∀ n, Go.Fen.ltL n cap = true) (R : Rt) (h : R (.ret (oneV (.fn (.func g) [] cap))) S) : ACall Tryz.prog w0 138 [.fn (.func g) [] cap] S R := by
 unfold oneV at h
 refine en Tryz.func138 rfl Tryz.ntmps138 fun hO => ?_
 repeat' first | refine st ?_ | (refine br ?_ ?_; all_goals (intro hb; try simp only [bnn] at hb)) | fail
 (apply f_ret; iterate 7 (· simp only [go_sem, *, Tryz.results138]; try rfl))
 exact h
theorem aEach (w0 : World) (S : List Blk) (k b : Int) (R : Rt) (h : R (.ret (sqV (.modes k b))) S) : ACall Tryz.prog w0 140 [.int .i64 k, .int .i64 b] S R := by
 unfold sqV at h
 refine en Tryz.func140 rfl Tryz.ntmps140 fun hO => ?_
 repeat' first | refine st ?_ | (refine br ?_ ?_; all_goals (intro hb; try simp only [bnn] at hb)) | fail
 (apply f_ret; iterate 7 (· simp only [go_sem, *, Tryz.results140]; try rfl))
 exact h
theorem aPut (w0 : World) (S : List Blk) (a m : Nat) (es : List (AV × AV)) (pv : Int) (it : List UInt8) (fn : Int) (v : AV) (ha : S[a]? = some (.cells [.mown m] none)) (hm : S[m]? = some (.mp false es)) (hall : (es.all fun x => keyA Tryz.prog 140 x.1) = true)
  (hnew : es.any (fun e => keq (.agg [.int .u8 pv, .str it, .int .u8 fn]) e.1) = false) (hlt : ltP S.length (es ++ [(.agg [.int .u8 pv, .str it, .int .u8 fn], v)]) = true) (R : Rt)
  (h : R (.ret (.tup [])) (S.set m (.mp false (es ++ [(.agg [.int .u8 pv, .str it, .int .u8 fn], v)])))) : ACall Tryz.prog w0 137 [.int .u8 pv, .str it, .int .u8 fn, v, .own a 0] S R := by
 have HN := Lib.hid hnew
 have HA := Lib.hid hall
 have HL := Lib.hid hlt
 have H := Lib.hid h
 clear hnew hall hlt h
 refine en Tryz.func137 rfl Tryz.ntmps137 fun hO => ?_
 repeat' first | refine st ?_ | (refine br ?_ ?_; all_goals (intro hb; try simp only [bnn] at hb)) | fail
 apply x_put
 ·(simp only [go_sem, *]; try rfl)
 ·rfl
 ·(simp only [go_sem, *]; try rfl)
 ·(simp only [go_sem, *]; try rfl)
 ·(simp only [go_sem, *]; try rfl)
 ·(simp only [go_sem, *]; try rfl)
 ·(simp only [go_sem, *]; try rfl)
 ·exact way_key pv it fn
 ·exact HA.out
 ·exact HN.out
 ·rfl
 ·rfl
 simp only [putA]
 repeat' first | refine st ?_ | (refine br ?_ ?_; all_goals (intro hb; try simp only [bnn] at hb)) | fail
 (apply f_endX; iterate 5 (· simp only [go_sem, *, Tryz.results137]; try rfl))
 ·exact OuterOk.set hO HL.out
 ·simp
 ·exact H.out
def fG (g : FuncId) (e : AV × AV) : AV × AV := (.agg [.int .u8 0, .str [], e.1], oneV (.fn (.func g) [] [.pro e.2.cells]))
def countsA : List (AV × AV) := countsT.map fun p => (.int .u8 p.1, .int .i64 p.2)
def choicesA : List (AV × AV) := choicesT.map fun p => (.int .u8 p.1, .int .i64 p.2)
def waysA : List (AV × AV) := waysT.map fun p => (.int .u8 p.1, actV p.2.1 p.2.2 0)
def base1 : List (AV × AV) := []
def base2 : List (AV × AV) := base1 ++ countsA.map (fG 143)
def base3 : List (AV × AV) := base2 ++ choicesA.map (fG 145)
def base4 : List (AV × AV) := base3 ++ waysA.map (fG 147)
theorem set_first (S r : List Blk) (a b : Blk) : (S ++ a :: r).set S.length b = S ++ b :: r := by
 rw [List.set_append_right _ _ (Nat.le_refl _), Nat.sub_self, List.set_cons_zero]
def WayE (x : AV × AV) : Prop := (∃ a s b, x.1 = .agg [.int .u8 a, .str s, .int .u8 b]) ∧ ∀ n, x.2.lt n = true
theorem WayE.key {x : AV × AV} (h : WayE x) : keyA Tryz.prog 140 x.1 = true := by
 obtain ⟨⟨a, s, b, e⟩, _⟩ := h
 rw [e]; exact way_key a s b
theorem WayE.lts {es : List (AV × AV)} (h : ∀ x ∈ es, WayE x) (n : Nat) : ltP n es = true := by
 rw [ltP_iff]
 intro x hx
 obtain ⟨⟨a, s, b, e⟩, h2⟩ := h x hx
 exact ⟨by rw [e]; rfl, h2 n⟩
theorem plain_map {g : FuncId} {e : AV × AV} {n : Int} (h1 : e.1 = .int .u8 n) (h2 : ∀ m, Go.Fen.ltL m e.2.cells = true) : WayE (fG g e) := by
 refine ⟨⟨0, [], n, by simp [fG, h1]⟩, fun m => ?_⟩
 simp only [fG, oneV, AV.lt, Go.Fen.ltL, h2 m, Bool.and_self]
theorem counts_mem {e : AV × AV} (h : e ∈ countsA) : ∃ (n k : Int), e = (.int .u8 n, .int .i64 k) := by
 unfold countsA at h
 obtain ⟨p, hp, rfl⟩ := List.mem_map.1 h
 exact ⟨_, _, rfl⟩
theorem choices_mem {e : AV × AV} (h : e ∈ choicesA) : ∃ (n k : Int), e = (.int .u8 n, .int .i64 k) := by
 unfold choicesA at h
 obtain ⟨p, hp, rfl⟩ := List.mem_map.1 h
 exact ⟨_, _, rfl⟩
theorem ways_mem {e : AV × AV} (h : e ∈ waysA) : ∃ (n k a : Int), e = (.int .u8 n, actV k a 0) := by
 unfold waysA at h
 obtain ⟨p, hp, rfl⟩ := List.mem_map.1 h
 exact ⟨_, _, _, rfl⟩
theorem base1_way : ∀ x ∈ base1, WayE x := by intro x hx; cases hx
theorem base2_way : ∀ x ∈ base2, WayE x := by
 intro x hx
 rcases List.mem_append.1 hx with hx | hx
 ·exact base1_way x hx
 ·obtain ⟨y, hy, rfl⟩ := List.mem_map.1 hx
  obtain ⟨n, k, rfl⟩ := counts_mem hy
  exact plain_map rfl fun m => rfl
theorem base3_way : ∀ x ∈ base3, WayE x := by
 intro x hx
 rcases List.mem_append.1 hx with hx | hx
 ·exact base2_way x hx
 ·obtain ⟨y, hy, rfl⟩ := List.mem_map.1 hx
  obtain ⟨n, k, rfl⟩ := choices_mem hy
  exact plain_map rfl fun m => rfl
theorem base4_way : ∀ x ∈ base4, WayE x := by
 intro x hx
 rcases List.mem_append.1 hx with hx | hx
 ·exact base3_way x hx
 ·obtain ⟨y, hy, rfl⟩ := List.mem_map.1 hx
  obtain ⟨n, k, a, rfl⟩ := ways_mem hy
  exact plain_map rfl fun m => rfl
theorem nodup4 : (base4.map Prod.fst).Nodup := by
 simp [base4, base3, base2, base1, countsA, countsT, choicesA, choicesT, waysA, waysT, fG]
theorem nodup3 : (base3.map Prod.fst).Nodup := by
 have h := nodup4
 unfold base4 at h
 rw [List.map_append] at h
 exact (List.nodup_append.1 h).1
theorem nodup2 : (base2.map Prod.fst).Nodup := by
 have h := nodup3
 unfold base3 at h
 rw [List.map_append] at h
 exact (List.nodup_append.1 h).1
set_option maxHeartbeats 40000000 in
theorem aSeqs (w0 : World) (S : List Blk) (R : Rt) (h : R (.ret (.mval seqA)) S) : ACall Tryz.prog w0 75 [] S R := by
 have hac := aAc w0
 have H := Lib.hid h
 have Hac := Lib.hid hac
 clear h
 refine en Tryz.func75 rfl Tryz.ntmps75 fun hO => ?_
 have HO := Lib.hid hO
 repeat' ((fail_if_success (apply x_stopR 6)); first | refine st ?_ | (refine ca ?_; first | apply hac) | (refine br ?_ ?_; all_goals (intro hb; try simp only [bnn] at hb)) | fail)
 refine x_mark (S.length + 2) (by (simp only [go_sem, *]; try rfl)) ?_
 repeat' first | refine st ?_ | (refine br ?_ ?_; all_goals (intro hb; try simp only [bnn] at hb)) | fail
 refine x_ind (fun (p : Option (AV × AV) × List (AV × AV) × List (AV × AV)) env S2 => countsA.Perm (p.2.1 ++ p.2.2) ∧ (∀ n, (Blk.mit p.1 []).ltB n = true) ∧ env 1000000 = .dfr [] ∧ env 1 = .own (S.length + 1) 0 ∧ env 2 = .fn (.func 137) [] [.own (S.length + 1) 0] ∧ env 3 = .fn (.func 138) [] [] ∧ env 4 = .fn (.func 140) [] [] ∧ env 27 = .own (S.length + 3) 0 ∧
  S2 = S ++ [.mp false (base1 ++ p.2.1.map (fG 143)), .cells [.mown S.length] none, .mp true countsA, .mit p.1 p.2.2]) (fun p => p.2.2.length) (none, [], countsA) ?_ ?_
 ·exact ⟨.refl _, fun _ => rfl, by (simp only [go_sem, *]; try rfl), by (simp only [go_sem, *]; try rfl), by (simp only [go_sem, *]; try rfl), by (simp only [go_sem, *]; try rfl), by (simp only [go_sem, *]; try rfl), by (simp only [go_sem, *]; try rfl), rfl⟩
 rintro ⟨cur, vis, rest⟩ env S2 ⟨hp, hcur, e0, e1, e2, e3, e4, eit, rfl⟩ IH
 have HI := Lib.hid IH
 have HP := Lib.hid hp
 clear IH hp hac
 simp only at hcur
 repeat' first | refine st ?_ | (refine br ?_ ?_; all_goals (intro hb; try simp only [bnn] at hb)) | fail
 apply x_nextM
 ·(simp only [go_sem, *]; try rfl)
 ·rfl
 ·(simp only [go_sem, *]; try rfl)
 ·(simp only [go_sem, *]; try rfl)
 ·rfl
 rotate_left
 ·intro e rest' hr
  have hp : countsA.Perm (vis ++ e :: rest') := HP.out.trans (List.Perm.append_left _ hr)
  have hnew := new_key (f := fG 143) nodup2 hp
  obtain ⟨n, k, rfl⟩ := counts_mem (hp.mem_iff.2 (List.mem_append_right _ (List.mem_cons_self ..)))
  have hkeys : ∀ x ∈ base1 ++ vis.map (fG 143), WayE x := by
   intro x hx
   rcases List.mem_append.1 hx with hx | hx
   ·exact base1_way x hx
   ·obtain ⟨y, hy, rfl⟩ := List.mem_map.1 hx
    obtain ⟨n, k, rfl⟩ := counts_mem (hp.mem_iff.2 (List.mem_append_left _ hy))
    exact plain_map rfl fun m => rfl
  have HN := Lib.hid hnew
  have HK := Lib.hid hkeys
  have HP2 := Lib.hid hp
  have HR := Lib.hid hr
  have HL2 : RowKit.Hid (∀ n, ltP n rest' = true ∧ ltP n countsA = true) := Lib.hid (by
   intro m
   constructor
   ·rw [ltP_iff]
    intro x hx
    obtain ⟨n, k, rfl⟩ := counts_mem (hp.mem_iff.2 (List.mem_append_right _ (List.mem_cons_of_mem _ hx)))
    exact ⟨rfl, rfl⟩
   ·rw [ltP_iff]
    intro x hx
    obtain ⟨n, k, rfl⟩ := counts_mem hx
    exact ⟨rfl, rfl⟩)
  clear hp hnew hkeys hr
  simp only [putA, actV]
  repeat' ((fail_if_success (apply x_stop 33 rfl)); first | refine st ?_ | (refine br ?_ ?_; all_goals (intro hb; try simp only [bnn] at hb)) | fail)
  refine x_frz (t := 7) (a := S.length + 4) (o := 0) (by (simp only [go_sem, *]; try rfl)) (by (simp only [go_sem, *]; try rfl)) ?_
  simp only [List.drop_zero]
  have hone := fun S' => aOne w0 S' 143 [.pro [.int .i64 k]] rfl (fun _ => rfl)
  unfold oneV at hone
  repeat' ((fail_if_success (apply x_stop 38 rfl)); first | refine st ?_ | (refine ca ?_; first | apply hone) | (refine br ?_ ?_; all_goals (intro hb; try simp only [bnn] at hb)) | fail)
  apply x_callA []
  ·(simp only [go_sem, *]; try rfl)
  ·rfl
  ·(simp only [go_sem, *]; try rfl)
  ·rfl
  ·(simp only [go_sem, *]; try rfl)
  ·(simp only [go_sem, *]; try rfl)
  have hke : WayE (fG 143 (.int .u8 n, .int .i64 k)) := plain_map rfl fun m => rfl
  refine aPut w0 _ (S.length + 1) S.length (base1 ++ vis.map (fG 143)) 0 [] n _ ?_ ?_ (List.all_eq_true.2 fun x hx => (HK.out x hx).key) (keq_of_mem (way_key 0 [] n) (fun x hx => (HK.out x hx).key) HN.out) (WayE.lts (es := (base1 ++ vis.map (fG 143)) ++ [fG 143 (.int .u8 n, .int .i64 k)]) (by
   intro x hx
   rcases List.mem_append.1 hx with hx | hx
   ·exact HK.out x hx
   ·rw [List.mem_singleton.1 hx]; exact hke) _) _ ?_
  ·(simp only [go_sem, *]; try rfl)
  ·(simp only [go_sem, *]; try rfl)
  rw [set_first]
  clear hke
  repeat' first | refine st ?_ | (refine br ?_ ?_; all_goals (intro hb; try simp only [bnn] at hb)) | fail
  refine x_keep HO.out 4 [1, 2, 3, 4, 27] rfl (by (simp only [go_sem, *]; try rfl)) (by (simp only [go_sem, *]; try rfl)) ?_ ?_
  ·have hke : WayE (fG 143 (.int .u8 n, .int .i64 k)) := plain_map rfl fun m => rfl
   have l1 := WayE.lts (es := (base1 ++ vis.map (fG 143)) ++ [fG 143 (.int .u8 n, .int .i64 k)]) (by
    intro x hx
    rcases List.mem_append.1 hx with hx | hx
    ·exact HK.out x hx
    ·rw [List.mem_singleton.1 hx]; exact hke)
   have l2 := fun n => (HL2.out n).1
   have l3 := fun n => (HL2.out n).2
   clear hke
   simp only [fG, oneV, AV.cells, actV, List.append_assoc] at l1 ⊢
   (simp only [go_sem, *]; try rfl)
  simp only [List.take_succ_cons, List.take_zero]
  refine HI.out (some (.int .u8 n, .int .i64 k), vis ++ [(.int .u8 n, .int .i64 k)], rest') _ _ ?_ ⟨?_, ?_, ?_, ?_, ?_, ?_, ?_, ?_, ?_⟩
  ·have := HR.out.length_eq; simp at this ⊢; omega
  ·simpa using HP2.out
  ·intro n; rfl
  ·(simp only [go_sem, *]; try rfl)
  ·(simp only [go_sem, *]; try rfl)
  ·(simp only [go_sem, *]; try rfl)
  ·(simp only [go_sem, *]; try rfl)
  ·(simp only [go_sem, *]; try rfl)
  ·(simp only [go_sem, *]; try rfl)
  ·simp [fG, oneV, actV, AV.cells]
 intro hr
 have hp := HP.out
 rw [hr, List.append_nil] at hp
 subst hr
 simp only [putA]
 refine x_mperm S.length (es' := base2) (by (simp only [go_sem, *]; try rfl)) ((hp.symm.map (fG 143)).append_left base1) (by (simp only [go_sem, *]; try rfl)) ?_
 clear hp HI HP
 repeat' ((fail_if_success (apply x_stopR 10)); first | refine st ?_ | (refine br ?_ ?_; all_goals (intro hb; try simp only [bnn] at hb)) | fail)
 refine x_keep HO.out 2 [1, 2, 3, 4] rfl (by (simp only [go_sem, *]; try rfl)) (by (simp only [go_sem, *]; try rfl)) ?_ ?_
 ·have l1 := WayE.lts base2_way
  (simp only [go_sem, *]; try rfl)
 simp only [List.take_succ_cons, List.take_zero]
 have Hac2 := Hac.out
 repeat' ((fail_if_success (apply x_stopR 11)); first | refine st ?_ | (refine ca ?_; first | apply Hac2) | (refine br ?_ ?_; all_goals (intro hb; try simp only [bnn] at hb)) | fail)
 refine x_mark (S.length + 2) (by (simp only [go_sem, *]; try rfl)) ?_
 repeat' first | refine st ?_ | (refine br ?_ ?_; all_goals (intro hb; try simp only [bnn] at hb)) | fail
 refine x_ind (fun (p : Option (AV × AV) × List (AV × AV) × List (AV × AV)) env S2 => choicesA.Perm (p.2.1 ++ p.2.2) ∧ (∀ n, (Blk.mit p.1 []).ltB n = true) ∧ env 1000000 = .dfr [] ∧ env 1 = .own (S.length + 1) 0 ∧ env 2 = .fn (.func 137) [] [.own (S.length + 1) 0] ∧ env 3 = .fn (.func 138) [] [] ∧ env 4 = .fn (.func 140) [] [] ∧ env 42 = .own (S.length + 3) 0 ∧
  S2 = S ++ [.mp false (base2 ++ p.2.1.map (fG 145)), .cells [.mown S.length] none, .mp true choicesA, .mit p.1 p.2.2]) (fun p => p.2.2.length) (none, [], choicesA) ?_ ?_
 ·exact ⟨.refl _, fun _ => rfl, by (simp only [go_sem, *]; try rfl), by (simp only [go_sem, *]; try rfl), by (simp only [go_sem, *]; try rfl), by (simp only [go_sem, *]; try rfl), by (simp only [go_sem, *]; try rfl), by (simp only [go_sem, *]; try rfl), by simp only [List.map_nil, List.append_nil]; rfl⟩
 clear e0 e1 e2 e3 e4 eit hcur
 rintro ⟨cur, vis, rest⟩ env S2 ⟨hp, hcur, e0, e1, e2, e3, e4, eit, rfl⟩ IH
 have HI := Lib.hid IH
 have HP := Lib.hid hp
 clear IH hp
 simp only at hcur
 repeat' first | refine st ?_ | (refine br ?_ ?_; all_goals (intro hb; try simp only [bnn] at hb)) | fail
 apply x_nextM
 ·(simp only [go_sem, *]; try rfl)
 ·rfl
 ·(simp only [go_sem, *]; try rfl)
 ·(simp only [go_sem, *]; try rfl)
 ·rfl
 rotate_left
 ·intro e rest' hr
  have hp : choicesA.Perm (vis ++ e :: rest') := HP.out.trans (List.Perm.append_left _ hr)
  have hnew := new_key (f := fG 145) nodup3 hp
  obtain ⟨n, k, rfl⟩ := choices_mem (hp.mem_iff.2 (List.mem_append_right _ (List.mem_cons_self ..)))
  have hkeys : ∀ x ∈ base2 ++ vis.map (fG 145), WayE x := by
   intro x hx
   rcases List.mem_append.1 hx with hx | hx
   ·exact base2_way x hx
   ·obtain ⟨y, hy, rfl⟩ := List.mem_map.1 hx
    obtain ⟨n, k, rfl⟩ := choices_mem (hp.mem_iff.2 (List.mem_append_left _ hy))
    exact plain_map rfl fun m => rfl
  have HN := Lib.hid hnew
  have HK := Lib.hid hkeys
  have HP2 := Lib.hid hp
  have HR := Lib.hid hr
  have HL2 : RowKit.Hid (∀ n, ltP n rest' = true ∧ ltP n choicesA = true) := Lib.hid (by
   intro m
   constructor
   ·rw [ltP_iff]
    intro x hx
    obtain ⟨n, k, rfl⟩ := choices_mem (hp.mem_iff.2 (List.mem_append_right _ (List.mem_cons_of_mem _ hx)))
    exact ⟨rfl, rfl⟩
   ·rw [ltP_iff]
    intro x hx
    obtain ⟨n, k, rfl⟩ := choices_mem hx
    exact ⟨rfl, rfl⟩)
  clear hp hnew hkeys hr
  simp only [putA, actV]
  repeat' ((fail_if_success (apply x_stop 48 rfl)); first | refine st ?_ | (refine br ?_ ?_; all_goals (intro hb; try simp only [bnn] at hb)) | fail)
  refine x_frz (t := 10) (a := S.length + 4) (o := 0) (by (simp only [go_sem, *]; try rfl)) (by (simp only [go_sem, *]; try rfl)) ?_
  simp only [List.drop_zero]
  have hone := fun S' => aOne w0 S' 145 [.pro [.int .i64 k]] rfl (fun _ => rfl)
  unfold oneV at hone
  repeat' ((fail_if_success (apply x_stop 53 rfl)); first | refine st ?_ | (refine ca ?_; first | apply hone) | (refine br ?_ ?_; all_goals (intro hb; try simp only [bnn] at hb)) | fail)
  apply x_callA []
  ·(simp only [go_sem, *]; try rfl)
  ·rfl
  ·(simp only [go_sem, *]; try rfl)
  ·rfl
  ·(simp only [go_sem, *]; try rfl)
  ·(simp only [go_sem, *]; try rfl)
  have hke : WayE (fG 145 (.int .u8 n, .int .i64 k)) := plain_map rfl fun m => rfl
  refine aPut w0 _ (S.length + 1) S.length (base2 ++ vis.map (fG 145)) 0 [] n _ ?_ ?_ (List.all_eq_true.2 fun x hx => (HK.out x hx).key) (keq_of_mem (way_key 0 [] n) (fun x hx => (HK.out x hx).key) HN.out) (WayE.lts (es := (base2 ++ vis.map (fG 145)) ++ [fG 145 (.int .u8 n, .int .i64 k)]) (by
   intro x hx
   rcases List.mem_append.1 hx with hx | hx
   ·exact HK.out x hx
   ·rw [List.mem_singleton.1 hx]; exact hke) _) _ ?_
  ·(simp only [go_sem, *]; try rfl)
  ·(simp only [go_sem, *]; try rfl)
  rw [set_first]
  clear hke
  repeat' first | refine st ?_ | (refine br ?_ ?_; all_goals (intro hb; try simp only [bnn] at hb)) | fail
  refine x_keep HO.out 4 [1, 2, 3, 4, 42] rfl (by (simp only [go_sem, *]; try rfl)) (by (simp only [go_sem, *]; try rfl)) ?_ ?_
  ·have hke : WayE (fG 145 (.int .u8 n, .int .i64 k)) := plain_map rfl fun m => rfl
   have l1 := WayE.lts (es := (base2 ++ vis.map (fG 145)) ++ [fG 145 (.int .u8 n, .int .i64 k)]) (by
    intro x hx
    rcases List.mem_append.1 hx with hx | hx
    ·exact HK.out x hx
    ·rw [List.mem_singleton.1 hx]; exact hke)
   have l2 := fun n => (HL2.out n).1
   have l3 := fun n => (HL2.out n).2
   clear hke
   simp only [fG, oneV, AV.cells, actV, List.append_assoc] at l1 ⊢
   (simp only [go_sem, *]; try rfl)
  simp only [List.take_succ_cons, List.take_zero]
  refine HI.out (some (.int .u8 n, .int .i64 k), vis ++ [(.int .u8 n, .int .i64 k)], rest') _ _ ?_ ⟨?_, ?_, ?_, ?_, ?_, ?_, ?_, ?_, ?_⟩
  ·have := HR.out.length_eq; simp at this ⊢; omega
  ·simpa using HP2.out
  ·intro n; rfl
  ·(simp only [go_sem, *]; try rfl)
  ·(simp only [go_sem, *]; try rfl)
  ·(simp only [go_sem, *]; try rfl)
  ·(simp only [go_sem, *]; try rfl)
  ·(simp only [go_sem, *]; try rfl)
  ·(simp only [go_sem, *]; try rfl)
  ·simp [fG, oneV, actV, AV.cells]
 intro hr
 have hp := HP.out
 rw [hr, List.append_nil] at hp
 subst hr
 simp only [putA]
 refine x_mperm S.length (es' := base3) (by (simp only [go_sem, *]; try rfl)) ((hp.symm.map (fG 145)).append_left base2) (by (simp only [go_sem, *]; try rfl)) ?_
 clear hp HI HP
 repeat' ((fail_if_success (apply x_stopR 15)); first | refine st ?_ | (refine br ?_ ?_; all_goals (intro hb; try simp only [bnn] at hb)) | fail)
 refine x_keep HO.out 2 [1, 2, 3, 4] rfl (by (simp only [go_sem, *]; try rfl)) (by (simp only [go_sem, *]; try rfl)) ?_ ?_
 ·have l1 := WayE.lts base3_way
  (simp only [go_sem, *]; try rfl)
 simp only [List.take_succ_cons, List.take_zero]
 repeat' ((fail_if_success (apply x_stopR 16)); first | refine st ?_ | (refine ca ?_; first | apply Hac2) | (refine br ?_ ?_; all_goals (intro hb; try simp only [bnn] at hb)) | fail)
 refine x_mark (S.length + 2) (by (simp only [go_sem, *]; try rfl)) ?_
 repeat' first | refine st ?_ | (refine br ?_ ?_; all_goals (intro hb; try simp only [bnn] at hb)) | fail
 refine x_ind (fun (p : Option (AV × AV) × List (AV × AV) × List (AV × AV)) env S2 => waysA.Perm (p.2.1 ++ p.2.2) ∧ (∀ n, (Blk.mit p.1 []).ltB n = true) ∧ env 1000000 = .dfr [] ∧ env 1 = .own (S.length + 1) 0 ∧ env 2 = .fn (.func 137) [] [.own (S.length + 1) 0] ∧ env 3 = .fn (.func 138) [] [] ∧ env 4 = .fn (.func 140) [] [] ∧ env 65 = .own (S.length + 3) 0 ∧
  S2 = S ++ [.mp false (base3 ++ p.2.1.map (fG 147)), .cells [.mown S.length] none, .mp true waysA, .mit p.1 p.2.2]) (fun p => p.2.2.length) (none, [], waysA) ?_ ?_
 ·exact ⟨.refl _, fun _ => rfl, by (simp only [go_sem, *]; try rfl), by (simp only [go_sem, *]; try rfl), by (simp only [go_sem, *]; try rfl), by (simp only [go_sem, *]; try rfl), by (simp only [go_sem, *]; try rfl), by (simp only [go_sem, *]; try rfl), by simp only [List.map_nil, List.append_nil]; rfl⟩
 clear e0 e1 e2 e3 e4 eit hcur
 rintro ⟨cur, vis, rest⟩ env S2 ⟨hp, hcur, e0, e1, e2, e3, e4, eit, rfl⟩ IH
 have HI := Lib.hid IH
 have HP := Lib.hid hp
 clear IH hp
 simp only at hcur
 repeat' first | refine st ?_ | (refine br ?_ ?_; all_goals (intro hb; try simp only [bnn] at hb)) | fail
 apply x_nextM
 ·(simp only [go_sem, *]; try rfl)
 ·rfl
 ·(simp only [go_sem, *]; try rfl)
 ·(simp only [go_sem, *]; try rfl)
 ·rfl
 rotate_left
 ·intro e rest' hr
  have hp : waysA.Perm (vis ++ e :: rest') := HP.out.trans (List.Perm.append_left _ hr)
  have hnew := new_key (f := fG 147) nodup4 hp
  obtain ⟨n, k, a, rfl⟩ := ways_mem (hp.mem_iff.2 (List.mem_append_right _ (List.mem_cons_self ..)))
  have hkeys : ∀ x ∈ base3 ++ vis.map (fG 147), WayE x := by
   intro x hx
   rcases List.mem_append.1 hx with hx | hx
   ·exact base3_way x hx
   ·obtain ⟨y, hy, rfl⟩ := List.mem_map.1 hx
    obtain ⟨n, k, a, rfl⟩ := ways_mem (hp.mem_iff.2 (List.mem_append_left _ hy))
    exact plain_map rfl fun m => rfl
  have HN := Lib.hid hnew
  have HK := Lib.hid hkeys
  have HP2 := Lib.hid hp
  have HR := Lib.hid hr
  have HL2 : RowKit.Hid (∀ n, ltP n rest' = true ∧ ltP n waysA = true) := Lib.hid (by
   intro m
   constructor
   ·rw [ltP_iff]
    intro x hx
    obtain ⟨n, k, a, rfl⟩ := ways_mem (hp.mem_iff.2 (List.mem_append_right _ (List.mem_cons_of_mem _ hx)))
    exact ⟨rfl, rfl⟩
   ·rw [ltP_iff]
    intro x hx
    obtain ⟨n, k, a, rfl⟩ := ways_mem hx
    exact ⟨rfl, rfl⟩)
  clear hp hnew hkeys hr
  simp only [putA, actV]
  repeat' ((fail_if_success (apply x_stop 71 rfl)); first | refine st ?_ | (refine br ?_ ?_; all_goals (intro hb; try simp only [bnn] at hb)) | fail)
  refine x_frz (t := 13) (a := S.length + 4) (o := 0) (by (simp only [go_sem, *]; try rfl)) (by (simp only [go_sem, *]; try rfl)) ?_
  simp only [List.drop_zero]
  have hone := fun S' => aOne w0 S' 147 [.pro [.int .i64 k, .int .i64 a, .int .i64 0, .int .i64 0, .int .i64 0, .str []]] rfl (fun _ => rfl)
  unfold oneV at hone
  repeat' ((fail_if_success (apply x_stop 76 rfl)); first | refine st ?_ | (refine ca ?_; first | apply hone) | (refine br ?_ ?_; all_goals (intro hb; try simp only [bnn] at hb)) | fail)
  apply x_callA []
  ·(simp only [go_sem, *]; try rfl)
  ·rfl
  ·(simp only [go_sem, *]; try rfl)
  ·rfl
  ·(simp only [go_sem, *]; try rfl)
  ·(simp only [go_sem, *]; try rfl)
  have hke : WayE (fG 147 (.int .u8 n, actV k a 0)) := plain_map rfl fun m => rfl
  refine aPut w0 _ (S.length + 1) S.length (base3 ++ vis.map (fG 147)) 0 [] n _ ?_ ?_ (List.all_eq_true.2 fun x hx => (HK.out x hx).key) (keq_of_mem (way_key 0 [] n) (fun x hx => (HK.out x hx).key) HN.out) (WayE.lts (es := (base3 ++ vis.map (fG 147)) ++ [fG 147 (.int .u8 n, actV k a 0)]) (by
   intro x hx
   rcases List.mem_append.1 hx with hx | hx
   ·exact HK.out x hx
   ·rw [List.mem_singleton.1 hx]; exact hke) _) _ ?_
  ·(simp only [go_sem, *]; try rfl)
  ·(simp only [go_sem, *]; try rfl)
  rw [set_first]
  clear hke
  repeat' first | refine st ?_ | (refine br ?_ ?_; all_goals (intro hb; try simp only [bnn] at hb)) | fail
  refine x_keep HO.out 4 [1, 2, 3, 4, 65] rfl (by (simp only [go_sem, *]; try rfl)) (by (simp only [go_sem, *]; try rfl)) ?_ ?_
  ·have hke : WayE (fG 147 (.int .u8 n, actV k a 0)) := plain_map rfl fun m => rfl
   have l1 := WayE.lts (es := (base3 ++ vis.map (fG 147)) ++ [fG 147 (.int .u8 n, actV k a 0)]) (by
    intro x hx
    rcases List.mem_append.1 hx with hx | hx
    ·exact HK.out x hx
    ·rw [List.mem_singleton.1 hx]; exact hke)
   have l2 := fun n => (HL2.out n).1
   have l3 := fun n => (HL2.out n).2
   clear hke
   simp only [fG, oneV, AV.cells, actV, List.append_assoc] at l1 ⊢
   (simp only [go_sem, *]; try rfl)
  simp only [List.take_succ_cons, List.take_zero]
  refine HI.out (some (.int .u8 n, actV k a 0), vis ++ [(.int .u8 n, actV k a 0)], rest') _ _ ?_ ⟨?_, ?_, ?_, ?_, ?_, ?_, ?_, ?_, ?_⟩
  ·have := HR.out.length_eq; simp at this ⊢; omega
  ·simpa using HP2.out
  ·intro n; rfl
  ·(simp only [go_sem, *]; try rfl)
  ·(simp only [go_sem, *]; try rfl)
  ·(simp only [go_sem, *]; try rfl)
  ·(simp only [go_sem, *]; try rfl)
  ·(simp only [go_sem, *]; try rfl)
  ·(simp only [go_sem, *]; try rfl)
  ·simp [fG, oneV, actV, AV.cells]
 intro hr
 have hp := HP.out
 rw [hr, List.append_nil] at hp
 subst hr
 simp only [putA]
 refine x_mperm S.length (es' := base4) (by (simp only [go_sem, *]; try rfl)) ((hp.symm.map (fG 147)).append_left base3) (by (simp only [go_sem, *]; try rfl)) ?_
 clear hp HI HP
 repeat' ((fail_if_success (apply x_stopR 20)); first | refine st ?_ | (refine br ?_ ?_; all_goals (intro hb; try simp only [bnn] at hb)) | fail)
 refine x_keep HO.out 2 [1, 2, 3, 4] rfl (by (simp only [go_sem, *]; try rfl)) (by (simp only [go_sem, *]; try rfl)) ?_ ?_
 ·have l1 := WayE.lts base4_way
  (simp only [go_sem, *]; try rfl)
 simp only [List.take_succ_cons, List.take_zero]
 simp only [base4, base3, base2, base1, countsA, countsT, choicesA, choicesT, waysA, waysT, fG, oneV, AV.cells, actV, List.map_cons, List.map_nil, List.nil_append, List.cons_append, Int.cast_ofNat_Int]
 have hput := aPut w0
 have hwk := way_key
 have hone := fun S' g => aOne w0 S' g [] rfl (fun _ => rfl)
 have heach := aEach w0
 unfold oneV at hone
 unfold sqV at heach
 have hone2 := fun S' n => aOne w0 S' 158 [.pro [.int .i64 n]] rfl (fun _ => rfl)
 unfold oneV at hone2
 repeat' ((fail_if_success (apply x_stop 112 rfl)); first | refine st ?_ | (refine ca ?_; first | apply hone | apply heach | (apply hput; (iterate 5 (· simp only [go_sem, *]; try rfl))) | apply hone2) | (refine br ?_ ?_; all_goals (intro hb; try simp only [bnn] at hb)) | apply x_loop | apply x_lp | fail)
 refine x_frz (t := 18) (a := S.length + 2) (o := 0) (by (simp only [go_sem, *]; try rfl)) (by (simp only [go_sem, *]; try rfl)) ?_
 simp only [List.drop_zero]
 repeat' ((fail_if_success (apply x_stop 113 rfl)); first | refine st ?_ | (refine br ?_ ?_; all_goals (intro hb; try simp only [bnn] at hb)) | fail)
 repeat' ((fail_if_success (apply x_stop 112 rfl)); first | refine st ?_ | (refine ca ?_; first | apply hone | apply heach | (apply hput; (iterate 5 (· simp only [go_sem, *]; try rfl))) | apply hone2) | (refine br ?_ ?_; all_goals (intro hb; try simp only [bnn] at hb)) | apply x_loop | apply x_lp | fail)
 refine x_frz (t := 18) (a := S.length + 3) (o := 0) (by (simp only [go_sem, *]; try rfl)) (by (simp only [go_sem, *]; try rfl)) ?_
 simp only [List.drop_zero]
 repeat' ((fail_if_success (apply x_stop 113 rfl)); first | refine st ?_ | (refine br ?_ ?_; all_goals (intro hb; try simp only [bnn] at hb)) | fail)
 repeat' ((fail_if_success (apply x_stop 145 rfl)); first | refine st ?_ | (refine ca ?_; first | apply hone | apply heach | (apply hput; (iterate 5 (· simp only [go_sem, *]; try rfl))) | apply hone2) | (refine br ?_ ?_; all_goals (intro hb; try simp only [bnn] at hb)) | apply x_loop | apply x_lp | fail)
 refine x_frz (t := 20) (a := S.length + 4) (o := 0) (by (simp only [go_sem, *]; try rfl)) (by (simp only [go_sem, *]; try rfl)) ?_
 simp only [List.drop_zero]
 repeat' ((fail_if_success (apply x_stop 146 rfl)); first | refine st ?_ | (refine br ?_ ?_; all_goals (intro hb; try simp only [bnn] at hb)) | fail)
 repeat' ((fail_if_success (apply x_stop 145 rfl)); first | refine st ?_ | (refine ca ?_; first | apply hone | apply heach | (apply hput; (iterate 5 (· simp only [go_sem, *]; try rfl))) | apply hone2) | (refine br ?_ ?_; all_goals (intro hb; try simp only [bnn] at hb)) | apply x_loop | apply x_lp | fail)
 refine x_frz (t := 20) (a := S.length + 5) (o := 0) (by (simp only [go_sem, *]; try rfl)) (by (simp only [go_sem, *]; try rfl)) ?_
 simp only [List.drop_zero]
 repeat' ((fail_if_success (apply x_stop 146 rfl)); first | refine st ?_ | (refine br ?_ ?_; all_goals (intro hb; try simp only [bnn] at hb)) | fail)
 repeat' first | refine st ?_ | (refine ca ?_; first | apply hone | apply heach | (apply hput; (iterate 5 (· simp only [go_sem, *]; try rfl))) | apply hone2) | (refine br ?_ ?_; all_goals (intro hb; try simp only [bnn] at hb)) | apply x_loop | apply x_lp | fail
 (apply f_ret; iterate 7 (· simp only [go_sem, *, Tryz.results75]; try rfl))
 exact H.out
def penA (n m : Int) : Ac := ⟨39, n, m, 0, 0, []⟩
def colA (n k c : Int) : Ac := ⟨39, n, 0, k, c, []⟩
def simS (v : Int) : Option Ac :=
 if v = 0 then some (penA 0 0) else if v = 1 then some (penA 1 1) else if v = 2 then some (penA 1 2) else if v = 3 then some (penA 1 4) else if v = 4 then some (penA 3 1) else if v = 5 ∨ v = 6 then some (penA 1 8)
 else if v = 7 then some (penA 1 16) else if v = 8 then some (penA 1 32) else if v = 9 then some (penA 1 64) else if v = 53 then some (penA 1 128)
 else if v = 22 then some (penA 2 3) else if v = 23 then some (penA 2 4) else if v = 25 then some (penA 2 8) else if v = 27 then some (penA 2 16) else if v = 28 then some (penA 2 32) else if v = 29 then some (penA 2 64) else if v = 55 then some (penA 2 128)
 else if v = 21 then some (penA 3 2) else if v = 24 then some (penA 3 0) else if v = 39 then some (penA 4 0) else if v = 49 then some (penA 5 0) else if v = 59 then some (penA 6 0)
 else if 30 ≤ v ∧ v ≤ 37 then some (colA 4 1 (v - 30)) else if 40 ≤ v ∧ v ≤ 47 then some (colA 5 1 (v - 40)) else if 90 ≤ v ∧ v ≤ 97 then some (colA 4 1 (v - 82)) else if 100 ≤ v ∧ v ≤ 107 then some (colA 5 1 (v - 92)) else none
def whichS (v : Int) : Option Int := if v = 38 then some 4 else if v = 48 then some 5 else if v = 58 then some 6 else none
def w255 (l : List Int) : Bool := l.all fun n => decide (0 ≤ n) && decide (n ≤ 255)
def shadeS (n how : Int) (l : List Int) : Option Ac :=
 if w255 l = false then none else if how = 5 ∧ l.length = 1 then some (colA n 1 (l.getD 0 0)) else if how = 2 ∧ l.length = 3 then some (colA n 2 (l.getD 0 0 * 65536 + l.getD 1 0 * 256 + l.getD 2 0)) else none
def partsS (s : List Int) : Option Ac :=
 if max 0 (s.getD 0 0) = 4 ∧ s.length = 2 then (if 0 ≤ s.getD 1 0 ∧ s.getD 1 0 ≤ 5 then some (penA 3 (s.getD 1 0)) else none)
 else match whichS (max 0 (s.getD 0 0)) with
  | none => none
  | some n => if s.length = 6 ∧ s.getD 1 0 = 2 then shadeS n 2 (s.drop 3) else if 2 < s.length then shadeS n (s.getD 1 0) (s.drop 2) else none
def valsS : List (List Int) → List Int
 | [n] :: r => max 0 n :: valsS r
 | _ => []
def frontS (l : List (List Int)) : Option Ac × Nat :=
 match valsS l with
 | [] => (partsS (l.headD []), 1)
 | v :: r => match whichS v, r with
  | some n, h :: t =>
   if h = 5 then (if 1 ≤ t.length then (shadeS n 5 (t.take 1), 3) else (none, min 3 l.length))
   else if h = 2 then (if 3 ≤ t.length then (shadeS n 2 (t.take 3), 5) else (none, min 5 l.length))
   else (simS v, 1)
  | _, _ => (simS v, 1)
def pensF : Nat → List (List Int) → List Ac
 | 0, _ => []
 | k + 1, l => if l = [] then [] else (frontS l).1.toList ++ pensF k (l.drop (frontS l).2)
def pensS (l : List (List Int)) : List Ac := if l = [] then [penA 0 0] else pensF l.length l
def runS (q : Sq) (l : List (List Int)) : List Ac :=
 match q with
 | .cnt k => [acN k (cntP l) 0]
 | .first k => [acN k (valP l 0 0) 0]
 | .way k n => [acN k n (cntP l)]
 | .cursor => [acN 19 (cntP l) (max 1 (valP l 1 0))]
 | .modes k bit => (List.range (max 1 l.length)).map fun (i : Nat) => acN k (valP l (i : Int) 0) bit
 | .ask n => if valP l 0 0 = 0 then [acN 42 n 0] else []
 | .margins => [acN 38 (valP l 0 0) (valP l 1 0)]
 | .const k => [acN k 0 0]
 | .pens => pensS l
 | .shape => [acN 40 (valP l 0 0) 0]
 | .askMode n => [acN 43 (valP l 0 0) n]
def csiS (e : Ev) : List Ac := match seqF ⟨e.priv, e.inter, e.fin⟩ with
 | some q => runS q e.pars
 | none => []
def allS (e : Ev) : List Ac :=
 if e.kind = 1 then [acN 1 e.code 0] else if e.kind = 2 then (ctlF e.code).toList else if e.kind = 3 then (escF ⟨0, e.inter, e.fin⟩).toList
 else if e.kind = 4 then csiS e else if e.kind = 5 then (parseO e.text).toList else []
def ofS (e : Ev) : List Ac := if evOk e then (allS e).filter actOk else []
theorem Ac_plain (a : Ac) : a.av.plain = true := rfl
@[go_sem] theorem Ac.plainL (l : List Ac) : plainL (l.map Ac.av) = true := plainL_map Ac_plain l
@[go_sem] theorem Ac.ltL (l : List Ac) (n : Nat) : Go.Fen.ltL n (l.map Ac.av) = true := ltL_iff.2 fun x hx => by obtain ⟨y, _, rfl⟩ := List.mem_map.1 hx; rfl
@[go_sem] theorem Ac.ok (l : List Ac) : okEls 6 (l.map Ac.av) = true := by
 unfold okEls; rw [List.all_eq_true]; intro x hx; obtain ⟨y, _, rfl⟩ := List.mem_map.1 hx; rfl
theorem max1 (v : Int) : (if (1 : Int) < v then v else 1) = max 1 v := by split <;> omega
set_option maxHeartbeats 4000000 in
theorem q4 (w0 : World) (S : List Blk) (l : List (List Int)) (k : Int) (R : Rt) (h : R (.ret (actV k (cntP l) 0)) S) : ACall Tryz.prog w0 143 [.sval false (l.map PmV), .pro [.int .i64 k]] S R := by
 have hac := aAc w0
 have hf := fun S' => aFirst w0 S' l
 have hs := fun S' => aSecond w0 S' l
 have hc := fun S' => aCounted w0 S' l
 unfold actV at h
 generalize cntP l = c at h hc
 have H := Lib.hid h
 clear h
 refine en Tryz.func143 rfl Tryz.ntmps143 fun hO => ?_
 repeat' ((fail_if_success (apply x_stopR 1)); first | refine st ?_ | (refine br ?_ ?_; all_goals (intro hb; try simp only [bnn] at hb)) | fail)
 refine d_draw (n := 5) mixed rfl ?_; refine d_seq 4 1 rfl (by decide +kernel) (by decide +kernel) (by decide +kernel) ?_
 repeat' first | refine st ?_ | (refine ca ?_; first | apply hac | apply hf | apply hs | apply hc) | (refine br ?_ ?_; all_goals (intro hb; try simp only [bnn] at hb)) | refine sd ?_ | apply pl_nil | (apply c_end; (· decide +kernel)) | refine bd ?_ ?_ | (refine cd ?_; first | apply hac | apply hf | apply hs | apply hc) | refine sq ?_ | (apply q_call; (iterate 2 (· simp only [go_sem, *]; try rfl)); (· rfl); (· simp only [go_sem, *]; try rfl); (· rfl); (· rfl); (· simp only [go_sem, *]; try rfl); (· intro R hR; (first | apply hac | apply hf | apply hs | apply hc); exact hR)) | (refine bq ?_ ?_; all_goals (intro hb; try simp only [bnn] at hb)) | fail
 (apply f_ret; iterate 7 (· simp only [go_sem, *, Tryz.results143]; try rfl))
 exact H.out
set_option maxHeartbeats 4000000 in
theorem q5 (w0 : World) (S : List Blk) (l : List (List Int)) (k : Int) (R : Rt) (h : R (.ret (actV k (valP l 0 0) 0)) S) : ACall Tryz.prog w0 145 [.sval false (l.map PmV), .pro [.int .i64 k]] S R := by
 have hac := aAc w0
 have hf := fun S' => aFirst w0 S' l
 have hs := fun S' => aSecond w0 S' l
 have hc := fun S' => aCounted w0 S' l
 unfold actV at h
 have H := Lib.hid h
 clear h
 refine en Tryz.func145 rfl Tryz.ntmps145 fun hO => ?_
 repeat' ((fail_if_success (apply x_stopR 1)); first | refine st ?_ | (refine br ?_ ?_; all_goals (intro hb; try simp only [bnn] at hb)) | fail)
 refine d_draw (n := 5) mixed rfl ?_; refine d_seq 4 1 rfl (by decide +kernel) (by decide +kernel) (by decide +kernel) ?_
 repeat' first | refine st ?_ | (refine ca ?_; first | apply hac | apply hf | apply hs | apply hc) | (refine br ?_ ?_; all_goals (intro hb; try simp only [bnn] at hb)) | refine sd ?_ | apply pl_nil | (apply c_end; (· decide +kernel)) | refine bd ?_ ?_ | (refine cd ?_; first | apply hac | apply hf | apply hs | apply hc) | refine sq ?_ | (apply q_call; (iterate 2 (· simp only [go_sem, *]; try rfl)); (· rfl); (· simp only [go_sem, *]; try rfl); (· rfl); (· rfl); (· simp only [go_sem, *]; try rfl); (· intro R hR; (first | apply hac | apply hf | apply hs | apply hc); exact hR)) | (refine bq ?_ ?_; all_goals (intro hb; try simp only [bnn] at hb)) | fail
 (apply f_ret; iterate 7 (· simp only [go_sem, *, Tryz.results145]; try rfl))
 exact H.out
set_option maxHeartbeats 4000000 in
theorem q6 (w0 : World) (S : List Blk) (l : List (List Int)) (k n : Int) (R : Rt) (h : R (.ret (actV k n (cntP l))) S) : ACall Tryz.prog w0 147 [.sval false (l.map PmV), .pro [.int .i64 k, .int .i64 n, .int .i64 0, .int .i64 0, .int .i64 0, .str []]] S R := by
 have hac := aAc w0
 have hf := fun S' => aFirst w0 S' l
 have hs := fun S' => aSecond w0 S' l
 have hc := fun S' => aCounted w0 S' l
 unfold actV at h
 generalize cntP l = c at h hc
 have H := Lib.hid h
 clear h
 refine en Tryz.func147 rfl Tryz.ntmps147 fun hO => ?_
 repeat' ((fail_if_success (apply x_stopR 1)); first | refine st ?_ | (refine br ?_ ?_; all_goals (intro hb; try simp only [bnn] at hb)) | fail)
 refine d_draw (n := 8) mixed rfl ?_; refine d_seq 7 1 rfl (by decide +kernel) (by decide +kernel) (by decide +kernel) ?_
 repeat' first | refine st ?_ | (refine ca ?_; first | apply hac | apply hf | apply hs | apply hc) | (refine br ?_ ?_; all_goals (intro hb; try simp only [bnn] at hb)) | refine sd ?_ | apply pl_nil | (apply c_end; (· decide +kernel)) | refine bd ?_ ?_ | (refine cd ?_; first | apply hac | apply hf | apply hs | apply hc) | refine sq ?_ | (apply q_call; (iterate 2 (· simp only [go_sem, *]; try rfl)); (· rfl); (· simp only [go_sem, *]; try rfl); (· rfl); (· rfl); (· simp only [go_sem, *]; try rfl); (· intro R hR; (first | apply hac | apply hf | apply hs | apply hc); exact hR)) | (refine bq ?_ ?_; all_goals (intro hb; try simp only [bnn] at hb)) | fail
 (apply f_ret; iterate 7 (· simp only [go_sem, *, Tryz.results147]; try rfl))
 exact H.out
set_option maxHeartbeats 4000000 in
theorem q7 (w0 : World) (S : List Blk) (l : List (List Int)) (R : Rt) (h : R (.ret (actV 19 (cntP l) (max 1 (valP l 1 0)))) S) : ACall Tryz.prog w0 148 [.sval false (l.map PmV)] S R := by
 have hac := aAc w0
 have hf := fun S' => aFirst w0 S' l
 have hs := fun S' => aSecond w0 S' l
 have hc := fun S' => aCounted w0 S' l
 unfold actV at h
 generalize cntP l = c at h hc
 rw [← max1] at h
 obtain ⟨v, hv⟩ : ∃ v, (if (1 : Int) < valP l 1 0 then valP l 1 0 else 1) = v := ⟨_, rfl⟩
 rw [hv] at h
 have H := Lib.hid h
 clear h
 refine en Tryz.func148 rfl Tryz.ntmps148 fun hO => ?_
 repeat' first | refine st ?_ | (refine ca ?_; first | apply hac | apply hf | apply hs | apply hc) | (refine br ?_ ?_; all_goals (intro hb; try simp only [bnn] at hb)) | fail
 (apply f_ret; iterate 7 (· simp only [go_sem, *, Tryz.results148]; try rfl))
 exact H.out
set_option maxHeartbeats 4000000 in
theorem q9 (w0 : World) (S : List Blk) (l : List (List Int)) (R : Rt) (h : R (.ret (actV 38 (valP l 0 0) (valP l 1 0))) S) : ACall Tryz.prog w0 151 [.sval false (l.map PmV)] S R := by
 have hac := aAc w0
 have hf := fun S' => aFirst w0 S' l
 have hs := fun S' => aSecond w0 S' l
 have hc := fun S' => aCounted w0 S' l
 unfold actV at h
 have H := Lib.hid h
 clear h
 refine en Tryz.func151 rfl Tryz.ntmps151 fun hO => ?_
 repeat' first | refine st ?_ | (refine ca ?_; first | apply hac | apply hf | apply hs | apply hc) | (refine br ?_ ?_; all_goals (intro hb; try simp only [bnn] at hb)) | fail
 (apply f_ret; iterate 7 (· simp only [go_sem, *, Tryz.results151]; try rfl))
 exact H.out
set_option maxHeartbeats 4000000 in
theorem q10 (w0 : World) (S : List Blk) (l : List (List Int)) (R : Rt) (h : R (.ret (actV 12 0 0)) S) : ACall Tryz.prog w0 152 [.sval false (l.map PmV)] S R := by
 have hac := aAc w0
 have hf := fun S' => aFirst w0 S' l
 have hs := fun S' => aSecond w0 S' l
 have hc := fun S' => aCounted w0 S' l
 unfold actV at h
 have H := Lib.hid h
 clear h
 refine en Tryz.func152 rfl Tryz.ntmps152 fun hO => ?_
 repeat' first | refine st ?_ | (refine ca ?_; first | apply hac | apply hf | apply hs | apply hc) | (refine br ?_ ?_; all_goals (intro hb; try simp only [bnn] at hb)) | fail
 (apply f_ret; iterate 7 (· simp only [go_sem, *, Tryz.results152]; try rfl))
 exact H.out
set_option maxHeartbeats 4000000 in
theorem q11 (w0 : World) (S : List Blk) (l : List (List Int)) (R : Rt) (h : R (.ret (actV 13 0 0)) S) : ACall Tryz.prog w0 153 [.sval false (l.map PmV)] S R := by
 have hac := aAc w0
 have hf := fun S' => aFirst w0 S' l
 have hs := fun S' => aSecond w0 S' l
 have hc := fun S' => aCounted w0 S' l
 unfold actV at h
 have H := Lib.hid h
 clear h
 refine en Tryz.func153 rfl Tryz.ntmps153 fun hO => ?_
 repeat' first | refine st ?_ | (refine ca ?_; first | apply hac | apply hf | apply hs | apply hc) | (refine br ?_ ?_; all_goals (intro hb; try simp only [bnn] at hb)) | fail
 (apply f_ret; iterate 7 (· simp only [go_sem, *, Tryz.results153]; try rfl))
 exact H.out
set_option maxHeartbeats 4000000 in
theorem q13 (w0 : World) (S : List Blk) (l : List (List Int)) (R : Rt) (h : R (.ret (actV 40 (valP l 0 0) 0)) S) : ACall Tryz.prog w0 156 [.sval false (l.map PmV)] S R := by
 have hac := aAc w0
 have hf := fun S' => aFirst w0 S' l
 have hs := fun S' => aSecond w0 S' l
 have hc := fun S' => aCounted w0 S' l
 unfold actV at h
 have H := Lib.hid h
 clear h
 refine en Tryz.func156 rfl Tryz.ntmps156 fun hO => ?_
 repeat' first | refine st ?_ | (refine ca ?_; first | apply hac | apply hf | apply hs | apply hc) | (refine br ?_ ?_; all_goals (intro hb; try simp only [bnn] at hb)) | fail
 (apply f_ret; iterate 7 (· simp only [go_sem, *, Tryz.results156]; try rfl))
 exact H.out
set_option maxHeartbeats 4000000 in
theorem q14 (w0 : World) (S : List Blk) (l : List (List Int)) (R : Rt) (h : R (.ret (actV 15 0 0)) S) : ACall Tryz.prog w0 157 [.sval false (l.map PmV)] S R := by
 have hac := aAc w0
 have hf := fun S' => aFirst w0 S' l
 have hs := fun S' => aSecond w0 S' l
 have hc := fun S' => aCounted w0 S' l
 unfold actV at h
 have H := Lib.hid h
 clear h
 refine en Tryz.func157 rfl Tryz.ntmps157 fun hO => ?_
 repeat' first | refine st ?_ | (refine ca ?_; first | apply hac | apply hf | apply hs | apply hc) | (refine br ?_ ?_; all_goals (intro hb; try simp only [bnn] at hb)) | fail
 (apply f_ret; iterate 7 (· simp only [go_sem, *, Tryz.results157]; try rfl))
 exact H.out
set_option maxHeartbeats 4000000 in
theorem q15 (w0 : World) (S : List Blk) (l : List (List Int)) (n : Int) (R : Rt) (h : R (.ret (actV 43 (valP l 0 0) n)) S) : ACall Tryz.prog w0 158 [.sval false (l.map PmV), .pro [.int .i64 n]] S R := by
 have hac := aAc w0
 have hf := fun S' => aFirst w0 S' l
 have hs := fun S' => aSecond w0 S' l
 have hc := fun S' => aCounted w0 S' l
 unfold actV at h
 have H := Lib.hid h
 clear h
 refine en Tryz.func158 rfl Tryz.ntmps158 fun hO => ?_
 repeat' ((fail_if_success (apply x_stopR 1)); first | refine st ?_ | (refine br ?_ ?_; all_goals (intro hb; try simp only [bnn] at hb)) | fail)
 refine d_draw (n := 5) mixed rfl ?_; refine d_seq 4 1 rfl (by decide +kernel) (by decide +kernel) (by decide +kernel) ?_
 repeat' first | refine st ?_ | (refine ca ?_; first | apply hac | apply hf | apply hs | apply hc) | (refine br ?_ ?_; all_goals (intro hb; try simp only [bnn] at hb)) | refine sd ?_ | apply pl_nil | (apply c_end; (· decide +kernel)) | refine bd ?_ ?_ | (refine cd ?_; first | apply hac | apply hf | apply hs | apply hc) | refine sq ?_ | (apply q_call; (iterate 2 (· simp only [go_sem, *]; try rfl)); (· rfl); (· simp only [go_sem, *]; try rfl); (· rfl); (· rfl); (· simp only [go_sem, *]; try rfl); (· intro R hR; (first | apply hac | apply hf | apply hs | apply hc); exact hR)) | (refine bq ?_ ?_; all_goals (intro hb; try simp only [bnn] at hb)) | fail
 (apply f_ret; iterate 7 (· simp only [go_sem, *, Tryz.results158]; try rfl))
 exact H.out
theorem q21_0 (w0 : World) (S : List Blk) (l : List (List Int)) (g : FuncId) (k n m : Int) (hg : ∀ (S' : List Blk) (R : Rt), R (.ret (actV k n m)) S' → ACall Tryz.prog w0 g [.sval false (l.map PmV)] S' R) (R : Rt) (h : R (.ret (.sval false [actV k n m])) S) : ACall Tryz.prog w0 139 [.sval false (l.map PmV), .pro [.fn (.func g) [] []]] S R := by
 unfold actV at hg h
 refine en Tryz.func139 rfl Tryz.ntmps139 fun hO => ?_
 repeat' first | refine st ?_ | (refine ca ?_; first | apply hg) | (refine br ?_ ?_; all_goals (intro hb; try simp only [bnn] at hb)) | fail
 (apply f_ret; iterate 7 (· simp only [go_sem, *, Tryz.results139]; try rfl))
 exact h
theorem q21_1 (w0 : World) (S : List Blk) (l : List (List Int)) (g : FuncId) (a : Int) (k n m : Int) (hg : ∀ (S' : List Blk) (R : Rt), R (.ret (actV k n m)) S' → ACall Tryz.prog w0 g [.sval false (l.map PmV), .pro [.int .i64 a]] S' R) (R : Rt) (h : R (.ret (.sval false [actV k n m])) S) : ACall Tryz.prog w0 139 [.sval false (l.map PmV), .pro [.fn (.func g) [] [.pro [.int .i64 a]]]] S R := by
 unfold actV at hg h
 refine en Tryz.func139 rfl Tryz.ntmps139 fun hO => ?_
 repeat' first | refine st ?_ | (refine ca ?_; first | apply hg) | (refine br ?_ ?_; all_goals (intro hb; try simp only [bnn] at hb)) | fail
 (apply f_ret; iterate 7 (· simp only [go_sem, *, Tryz.results139]; try rfl))
 exact h
theorem q21_6 (w0 : World) (S : List Blk) (l : List (List Int)) (g : FuncId) (a b : Int) (k n m : Int) (hg : ∀ (S' : List Blk) (R : Rt), R (.ret (actV k n m)) S' → ACall Tryz.prog w0 g [.sval false (l.map PmV), .pro [.int .i64 a, .int .i64 b, .int .i64 0, .int .i64 0, .int .i64 0, .str []]] S' R) (R : Rt) (h : R (.ret (.sval false [actV k n m])) S) : ACall Tryz.prog w0 139 [.sval false (l.map PmV), .pro [.fn (.func g) [] [.pro [.int .i64 a, .int .i64 b, .int .i64 0, .int .i64 0, .int .i64 0, .str []]]]] S R := by
 unfold actV at hg h
 refine en Tryz.func139 rfl Tryz.ntmps139 fun hO => ?_
 repeat' first | refine st ?_ | (refine ca ?_; first | apply hg) | (refine br ?_ ?_; all_goals (intro hb; try simp only [bnn] at hb)) | fail
 (apply f_ret; iterate 7 (· simp only [go_sem, *, Tryz.results139]; try rfl))
 exact h
theorem q8 (w0 : World) (S : List Blk) (l : List (List Int)) (n : Int) (R : Rt) (h : R (.ret (.sval false ((runS (.ask n) l).map Ac.av))) S) : ACall Tryz.prog w0 150 [.sval false (l.map PmV), .pro [.int .i64 n]] S R := by
 have hac := aAc w0
 have hf := fun S' => aFirst w0 S' l
 unfold runS at h
 by_cases hz : valP l 0 0 = 0
 ·simp only [hz, if_true, List.map_cons, List.map_nil, acN_av, actV] at h
  rw [hz] at hf
  clear hz
  refine en Tryz.func150 rfl Tryz.ntmps150 fun hO => ?_
  repeat' first | refine st ?_ | (refine ca ?_; first | apply hac | apply hf) | (refine br ?_ ?_; all_goals (intro hb; try simp only [bnn] at hb)) | fail
  (apply f_ret; iterate 7 (· simp only [go_sem, *, Tryz.results150]; try rfl))
  exact h
 ·simp only [hz, if_false, List.map_nil] at h
  have hb : (valP l 0 0 != 0) = true := by simpa using hz
  clear hz
  refine en Tryz.func150 rfl Tryz.ntmps150 fun hO => ?_
  repeat' first | refine st ?_ | (refine ca ?_; first | apply hac | apply hf) | (refine br ?_ ?_; all_goals (intro hb; try simp only [bnn] at hb)) | fail
  (apply f_ret; iterate 7 (· simp only [go_sem, *, Tryz.results150]; try rfl))
  exact h
set_option maxHeartbeats 8000000 in
theorem q31 (w0 : World) (S : List Blk) (l : List (List Int)) (k b : Int) (hl : l.length ≤ 100000) (R : Rt) (h : R (.ret (.sval false ((runS (.modes k b) l).map Ac.av))) S) : ACall Tryz.prog w0 141 [.sval false (l.map PmV), .pro [.int .i64 k], .pro [.int .i64 b]] S R := by
 have hac := aAc w0
 unfold runS at h
 simp only [List.map_map, Function.comp_def, acN_av] at h
 have hv := fun (i : Nat) S' R h => (value_any w0 S' l (i : Int) 0 R h).1
 obtain ⟨n, hn⟩ : ∃ n, max 1 l.length = n := ⟨_, rfl⟩
 rw [hn] at h
 have hm : (if (1 : Int) < (l.length : Int) then (l.length : Int) else 1) = (n : Int) := by subst hn; split <;> omega
 have hn2 : n ≤ 100001 := by omega
 have H := Lib.hid h
 clear h hl hn
 refine en Tryz.func141 rfl Tryz.ntmps141 fun hO => ?_
 repeat' first | refine st ?_ | (refine br ?_ ?_; all_goals (intro hb; try simp only [bnn] at hb)) | fail
 refine x_thaw (t := 4) (e := 25) (sz := 6) (by (simp only [go_sem, *]; try rfl)) (by decide) ?_
 refine x_ind (fun (j : Nat) env S' => j ≤ n ∧ env 1000000 = .dfr [] ∧ env 0 = .sval false (l.map PmV) ∧ env 1 = .pro [.int .i64 k] ∧ env 2 = .pro [.int .i64 b] ∧ env 4 = .sown S.length j j ∧ env 8 = .int .i64 (n : Int) ∧ env 9 = .int .i64 (j : Int) ∧ S' = S ++ [.arr 25 6 0 j ((List.range j).map fun (i : Nat) => actV k (valP l (i : Int) 0) b)]) (fun j => n - j) 0 ?_ ?_
 ·exact ⟨Nat.zero_le _, by (simp only [go_sem, *]; try rfl), by (simp only [go_sem, *]; try rfl), by (simp only [go_sem, *]; try rfl), by (simp only [go_sem, *]; try rfl), by (simp only [go_sem, *]; try rfl), by (simp only [go_sem, *]; try rfl), by (simp only [go_sem, *]; try rfl), rfl⟩
 ·rintro j env S' ⟨hj, e0, f0, f1, f2, f4, f8, f9, rfl⟩ IH
  have HI := Lib.hid IH
  clear IH
  have hok : okEls 6 ((List.range j).map fun (i : Nat) => actV k (valP l (i : Int) 0) b) = true := by
   unfold okEls; rw [List.all_eq_true]; intro x hx; obtain ⟨y, _, rfl⟩ := List.mem_map.1 hx; rfl
  have hlt2 : ∀ m, Go.Fen.ltL m ((List.range j).map fun (i : Nat) => actV k (valP l (i : Int) 0) b) = true := fun m => ltL_iff.2 fun x hx => by obtain ⟨y, _, rfl⟩ := List.mem_map.1 hx; rfl
  have hpl : plainL ((List.range j).map fun (i : Nat) => actV k (valP l (i : Int) 0) b) = true := plainL_map (fun _ => rfl) _
  have hle : ((List.range j).map fun (i : Nat) => actV k (valP l (i : Int) 0) b).length = j := by simp
  have Hsu : RowKit.Hid (((List.range (j + 1)).map fun (i : Nat) => actV k (valP l (i : Int) 0) b) = ((List.range j).map fun (i : Nat) => actV k (valP l (i : Int) 0) b) ++ [actV k (valP l (j : Int) 0) b]) := Lib.hid (by rw [List.range_succ, List.map_append]; rfl)
  generalize hL : ((List.range j).map fun (i : Nat) => actV k (valP l (i : Int) 0) b) = L at hok hlt2 hpl hle Hsu ⊢
  by_cases hlt : j < n
  ·have h1 : decide ((j : Int) < (n : Int)) = true := by simpa using hlt
   have hw : IntKind.i64.wrap ((j : Int) + 1) = ((j + 1 : Nat) : Int) := by rw [IntWalk.i64_in _ (by omega)]; omega
   have hb : (j + 1) * 56 ≤ 140737488355328 := by omega
   have hvj := hv j
   have Hlt := Lib.hid hlt
   clear hlt hj hv hL hm hn2
   repeat' first | refine st ?_ | (refine ca ?_; first | apply hac | apply hvj) | (refine br ?_ ?_; all_goals (intro hb; try simp only [bnn] at hb)) | refine sd ?_ | apply pl_nil | (apply c_end; (· decide +kernel)) | refine bd ?_ ?_ | (refine cd ?_; first | apply hac | apply hvj) | fail
   refine x_keep hO 1 [0, 1, 2, 4, 8, 9] rfl (by (simp only [go_sem, *]; try rfl)) (by (simp only [go_sem, *]; try rfl)) ?_ ?_
   ·(simp only [go_sem, *]; try rfl)
   simp only [List.take_succ_cons, List.take_zero]
   refine HI.out (j + 1) _ _ (by have := Hlt.out; omega) ⟨Hlt.out, ?_, ?_, ?_, ?_, ?_, ?_, ?_, ?_⟩
   ·(simp only [go_sem, *]; try rfl)
   ·(simp only [go_sem, *]; try rfl)
   ·(simp only [go_sem, *]; try rfl)
   ·(simp only [go_sem, *]; try rfl)
   ·(simp only [go_sem, *]; try rfl)
   ·(simp only [go_sem, *]; try rfl)
   ·(simp only [go_sem, *]; try rfl)
   ·rw [Hsu.out]; rfl
  ·have h1 : decide ((j : Int) < (n : Int)) = false := by simpa using hlt
   have hje : j = n := by omega
   subst hje
   have H2 := H.out
   rw [hL] at H2
   clear hlt hj hv hL hm hn2 HI H
   repeat' first | refine st ?_ | (refine br ?_ ?_; all_goals (intro hb; try simp only [bnn] at hb)) | fail
   (apply f_end; iterate 7 (· simp only [go_sem, *, Tryz.results141]; try rfl))
   exact H2
def PensOk (w0 : World) : Prop := ∀ (S : List Blk) (l : List (List Int)), okRow l = true → ∀ (R : Rt), R (.ret (.tup [.sval false ((pensS l).map Ac.av), .int .i64 0])) S → ACall Tryz.prog w0 155 [.sval false (l.map PmV)] S R
theorem find_ctl (c : Int) : ∀ l : List (Int × Ac), (l.map fun p => ((.int .i64 p.1 : AV), p.2.av)).find? (fun e => keq (.int .i64 c) e.1) = (l.find? fun p => c == p.1).map fun p => ((.int .i64 p.1 : AV), p.2.av)
 | [] => rfl
 | p :: l => by
  rw [List.map_cons, List.find?_cons, List.find?_cons, find_ctl c l]
  show (match c == p.1 with | true => _ | false => _) = _
  cases c == p.1 <;> rfl
theorem wy_keq (a b : Wy) : keq a.av b.av = (a == b) := by
 obtain ⟨p, i, f⟩ := a
 obtain ⟨p', i', f'⟩ := b
 rw [Bool.eq_iff_iff]
 simp only [Wy.av, keq, keqL, keq0, Bool.and_eq_true, beq_iff_eq, Wy.mk.injEq, and_true, Int.ofNat_inj, Int.natCast_inj]
theorem find_wy {α : Type} (f : α → AV) (w : Wy) : ∀ l : List (Wy × α), (l.map fun p => (p.1.av, f p.2)).find? (fun e => keq w.av e.1) = (l.find? fun p => w == p.1).map fun p => (p.1.av, f p.2)
 | [] => rfl
 | p :: l => by
  rw [List.map_cons, List.find?_cons, List.find?_cons, find_wy f w l, wy_keq]
  cases w == p.1 <;> rfl
theorem wy_key (w : Wy) : keyA Tryz.prog 140 w.av = true := way_key _ _ _
theorem ctl_facts (c : Int) : (plainE.find? (fun e => keq (.int .i64 c) e.1) = (ctlT.find? fun p => c == p.1).map fun p => ((.int .i64 p.1 : AV), p.2.av)) ∧ plainE.all (fun e => keyA Tryz.prog 3 e.1) = true := by
 constructor
 ·exact find_ctl c ctlT
 ·unfold plainE
  rw [List.all_map]
  exact List.all_eq_true.2 fun p _ => by simp only [keyA, Function.comp_def, go_sem]
theorem esc_facts (w : Wy) : (escA.find? (fun e => keq w.av e.1) = (escT.find? fun p => w == p.1).map fun p => (p.1.av, p.2.av)) ∧ escA.all (fun e => keyA Tryz.prog 140 e.1) = true := by
 constructor
 ·exact find_wy Ac.av w escT
 ·unfold escA
  rw [List.all_map]
  exact List.all_eq_true.2 fun p _ => wy_key _
theorem seq_facts (w : Wy) : (seqA.find? (fun e => keq w.av e.1) = (seqT.find? fun p => w == p.1).map fun p => (p.1.av, sqV p.2)) ∧ seqA.all (fun e => keyA Tryz.prog 140 e.1) = true := by
 constructor
 ·exact find_wy sqV w seqT
 ·unfold seqA
  rw [List.all_map]
  exact List.all_eq_true.2 fun p _ => wy_key _
theorem find_cases {α β : Type} (f : α × β → Bool) (l : List (α × β)) : l.find? f = none ∨ ∃ j a, l.find? f = some (j, a) := by
 cases l.find? f with
 | none => exact .inl rfl
 | some q => exact .inr ⟨q.1, q.2, rfl⟩
set_option maxHeartbeats 8000000 in
theorem aAll1 (w0 : World) (S : List Blk) (c : Int) (pr fi : Nat) (pars : List (List Int)) (it tx : List UInt8) (R : Rt) (h : R (.ret (.sval false ([acN 1 c 0].map Ac.av))) S) : ACall Tryz.prog w0 34 [.agg [.int .i64 1, .int .i64 c, .int .u8 pr, .int .u8 fi, .sval false (pars.map PmV), .str it, .str tx]] S R := by
 have hac := aAc w0
 simp only [List.map_cons, List.map_nil, acN_av, actV] at h
 refine en Tryz.func34 rfl Tryz.ntmps34 fun hO => ?_
 repeat' first | refine st ?_ | (refine ca ?_; first | apply hac) | (refine br ?_ ?_; all_goals (intro hb; try simp only [bnn] at hb)) | fail
 all_goals (apply f_ret; iterate 7 (· simp only [go_sem, *, Tryz.results34]; try rfl))
 all_goals exact h
set_option maxHeartbeats 8000000 in
theorem aAll2 (w0 : World) (S : List Blk) (c : Int) (pr fi : Nat) (pars : List (List Int)) (it tx : List UInt8) (R : Rt) (h : R (.ret (.sval false ((ctlF c).toList.map Ac.av))) S) : ACall Tryz.prog w0 34 [.agg [.int .i64 2, .int .i64 c, .int .u8 pr, .int .u8 fi, .sval false (pars.map PmV), .str it, .str tx]] S R := by
 have hp := aPlain w0
 obtain ⟨hf, ha⟩ := ctl_facts c
 unfold ctlF at h
 rcases find_cases (fun p => c == p.1) ctlT with hl | ⟨j, a, hl⟩
 ·rw [hl] at hf h
  simp only [Option.map_none, Option.toList_none, List.map_nil] at hf h
  simp only [go_sem] at hf ha
  clear hl
  refine en Tryz.func34 rfl Tryz.ntmps34 fun hO => ?_
  repeat' first | refine st ?_ | (refine ca ?_; first | apply hp) | (refine br ?_ ?_; all_goals (intro hb; try simp only [bnn] at hb)) | refine sd ?_ | refine sx ?_ | apply pl_nil | (apply c_end; (· decide +kernel)) | refine bd ?_ ?_ | (refine cd ?_; first | apply hp) | fail
  all_goals (apply f_ret; iterate 7 (· simp only [go_sem, *, Tryz.results34]; try rfl))
  all_goals exact h
 ·rw [hl] at hf h
  obtain ⟨k1, k2, k3, k4, k5, k6⟩ := a
  simp only [Option.map_some, Option.toList_some, List.map_cons, List.map_nil, Ac.av] at hf h
  simp only [go_sem] at hf ha
  clear hl
  refine en Tryz.func34 rfl Tryz.ntmps34 fun hO => ?_
  repeat' first | refine st ?_ | (refine ca ?_; first | apply hp) | (refine br ?_ ?_; all_goals (intro hb; try simp only [bnn] at hb)) | refine sd ?_ | refine sx ?_ | apply pl_nil | (apply c_end; (· decide +kernel)) | refine bd ?_ ?_ | (refine cd ?_; first | apply hp) | fail
  all_goals (apply f_ret; iterate 7 (· simp only [go_sem, *, Tryz.results34]; try rfl))
  all_goals exact h
set_option maxHeartbeats 8000000 in
theorem aAll3 (w0 : World) (S : List Blk) (c : Int) (pr fi : Nat) (pars : List (List Int)) (it tx : List UInt8) (R : Rt) (h : R (.ret (.sval false ((escF ⟨0, it, fi⟩).toList.map Ac.av))) S) : ACall Tryz.prog w0 34 [.agg [.int .i64 3, .int .i64 c, .int .u8 pr, .int .u8 fi, .sval false (pars.map PmV), .str it, .str tx]] S R := by
 have hp := aEscapes w0
 obtain ⟨hf, ha⟩ := esc_facts ⟨0, it, fi⟩
 unfold escF at h
 rcases find_cases (fun p => (⟨0, it, fi⟩ : Wy) == p.1) escT with hl | ⟨j, a, hl⟩
 ·rw [hl] at hf h
  simp only [Option.map_none, Option.toList_none, List.map_nil] at hf h
  simp only [Wy.av, Int.cast_ofNat_Int, go_sem] at hf ha
  clear hl
  refine en Tryz.func34 rfl Tryz.ntmps34 fun hO => ?_
  repeat' first | refine st ?_ | (refine ca ?_; first | apply hp) | (refine br ?_ ?_; all_goals (intro hb; try simp only [bnn] at hb)) | refine sd ?_ | refine sx ?_ | apply pl_nil | (apply c_end; (· decide +kernel)) | refine bd ?_ ?_ | (refine cd ?_; first | apply hp) | fail
  all_goals (apply f_ret; iterate 7 (· simp only [go_sem, *, Tryz.results34]; try rfl))
  all_goals exact h
 ·rw [hl] at hf h
  obtain ⟨k1, k2, k3, k4, k5, k6⟩ := a
  simp only [Option.map_some, Option.toList_some, List.map_cons, List.map_nil, Ac.av] at hf h
  simp only [Wy.av, Int.cast_ofNat_Int, go_sem] at hf ha
  clear hl
  refine en Tryz.func34 rfl Tryz.ntmps34 fun hO => ?_
  repeat' first | refine st ?_ | (refine ca ?_; first | apply hp) | (refine br ?_ ?_; all_goals (intro hb; try simp only [bnn] at hb)) | refine sd ?_ | refine sx ?_ | apply pl_nil | (apply c_end; (· decide +kernel)) | refine bd ?_ ?_ | (refine cd ?_; first | apply hp) | fail
  all_goals (apply f_ret; iterate 7 (· simp only [go_sem, *, Tryz.results34]; try rfl))
  all_goals exact h
set_option maxHeartbeats 8000000 in
theorem aAll5 (w0 : World) (S : List Blk) (c : Int) (pr fi : Nat) (pars : List (List Int)) (it tx : List UInt8) (hQ : ParseOk w0) (ht : tx.length ≤ 8192) (R : Rt) (h : R (.ret (.sval false ((parseO tx).toList.map Ac.av))) S) : ACall Tryz.prog w0 34 [.agg [.int .i64 5, .int .i64 c, .int .u8 pr, .int .u8 fi, .sval false (pars.map PmV), .str it, .str tx]] S R := by
 have hp := fun S' => hQ S' tx ht
 cases hl : parseO tx with
 | none =>
  rw [hl] at hp h
  simp only [parV, zeroA, Ac.av, Option.toList_none, List.map_nil] at hp h
  clear hl
  refine en Tryz.func34 rfl Tryz.ntmps34 fun hO => ?_
  repeat' first | refine st ?_ | (refine ca ?_; first | apply hp) | (refine br ?_ ?_; all_goals (intro hb; try simp only [bnn] at hb)) | fail
  all_goals (apply f_ret; iterate 7 (· simp only [go_sem, *, Tryz.results34]; try rfl))
  all_goals exact h
 | some a =>
  rw [hl] at hp h
  obtain ⟨k1, k2, k3, k4, k5, k6⟩ := a
  simp only [parV, Ac.av, Option.toList_some, List.map_cons, List.map_nil] at hp h
  clear hl
  refine en Tryz.func34 rfl Tryz.ntmps34 fun hO => ?_
  repeat' first | refine st ?_ | (refine ca ?_; first | apply hp) | (refine br ?_ ?_; all_goals (intro hb; try simp only [bnn] at hb)) | fail
  all_goals (apply f_ret; iterate 7 (· simp only [go_sem, *, Tryz.results34]; try rfl))
  all_goals exact h
set_option maxHeartbeats 8000000 in
theorem aAll0 (k : Int) (h1 : (k == 1) = false) (h2 : (k == 2) = false) (h3 : (k == 3) = false) (h4 : (k == 4) = false) (h5 : (k == 5) = false) (w0 : World) (S : List Blk) (c : Int) (pr fi : Nat) (pars : List (List Int)) (it tx : List UInt8) (R : Rt) (h : R (.ret (.sval false (([] : List Ac).map Ac.av))) S) : ACall Tryz.prog w0 34 [.agg [.int .i64 k, .int .i64 c, .int .u8 pr, .int .u8 fi, .sval false (pars.map PmV), .str it, .str tx]] S R := by
 simp only [List.map_nil] at h
 refine en Tryz.func34 rfl Tryz.ntmps34 fun hO => ?_
 repeat' first | refine st ?_ | (refine br ?_ ?_; all_goals (intro hb; try simp only [bnn] at hb)) | fail
 all_goals (apply f_ret; iterate 7 (· simp only [go_sem, *, Tryz.results34]; try rfl))
 all_goals exact h
theorem const_cases {w : Wy} {k : Int} (h : seqF w = some (.const k)) : k = 12 ∨ k = 13 ∨ k = 15 := by
 unfold seqF at h
 obtain ⟨p, hp, e⟩ := Option.map_eq_some_iff.1 h
 have hm := List.mem_of_find?_eq_some hp
 have hall : (seqT.all fun p => match p.2 with | .const k => k == 12 || (k == 13 || k == 15) | _ => true) = true := by decide
 have := List.all_eq_true.1 hall p hm
 rw [e] at this
 simpa using this
set_option maxHeartbeats 8000000 in
theorem q12 (w0 : World) (hP : PensOk w0) (S : List Blk) (l : List (List Int)) (hl : okRow l = true) (R : Rt) (h : R (.ret (.sval false ((pensS l).map Ac.av))) S) : ACall Tryz.prog w0 154 [.sval false (l.map PmV)] S R := by
 have hp := fun S' => hP S' l hl
 generalize pensS l = x at h hp
 clear hP hl
 refine en Tryz.func154 rfl Tryz.ntmps154 fun hO => ?_
 repeat' first | refine st ?_ | (refine ca ?_; first | apply hp) | (refine br ?_ ?_; all_goals (intro hb; try simp only [bnn] at hb)) | fail
 (apply f_ret; iterate 7 (· simp only [go_sem, *, Tryz.results154]; try rfl))
 exact h
set_option maxHeartbeats 16000000 in
theorem aAll4 (w0 : World) (S : List Blk) (c : Int) (pr fi : Nat) (pars : List (List Int)) (it tx : List UInt8) (hok : okRow pars = true) (hP : seqF ⟨pr, it, fi⟩ = some .pens → PensOk w0) (R : Rt) (h : R (.ret (.sval false ((csiS ⟨4, c, pr, fi, pars, it, tx⟩).map Ac.av))) S) : ACall Tryz.prog w0 34 [.agg [.int .i64 4, .int .i64 c, .int .u8 pr, .int .u8 fi, .sval false (pars.map PmV), .str it, .str tx]] S R := by
 have hp := aSeqs w0
 obtain ⟨hf, ha⟩ := seq_facts ⟨pr, it, fi⟩
 have hlen : pars.length ≤ 100000 := by
  unfold okRow at hok
  simp only [Bool.and_eq_true, decide_eq_true_eq] at hok
  omega
 have hq : csiS ⟨4, c, pr, fi, pars, it, tx⟩ = match seqF ⟨pr, it, fi⟩ with | some q => runS q pars | none => [] := rfl
 have hcc := fun k => const_cases (w := ⟨pr, it, fi⟩) (k := k)
 rw [hq] at h
 clear hq
 unfold seqF at h hP hcc
 rcases find_cases (fun p => (⟨pr, it, fi⟩ : Wy) == p.1) seqT with hl | ⟨j, q, hl⟩
 ·rw [hl] at hf h
  simp only [Option.map_none, List.map_nil] at hf h
  simp only [Wy.av, Int.cast_ofNat_Int, go_sem] at hf ha
  clear hl hP hcc hok hlen
  refine en Tryz.func34 rfl Tryz.ntmps34 fun hO => ?_
  repeat' first | refine st ?_ | (refine ca ?_; first | apply hp) | (refine br ?_ ?_; all_goals (intro hb; try simp only [bnn] at hb)) | refine sd ?_ | refine sx ?_ | apply pl_nil | (apply c_end; (· decide +kernel)) | refine bd ?_ ?_ | (refine cd ?_; first | apply hp) | fail
  all_goals (apply f_ret; iterate 7 (· simp only [go_sem, *, Tryz.results34]; try rfl))
  all_goals exact h
 ·rw [hl] at hf h hP hcc
  simp only [Option.map_some] at hf h hP hcc
  clear hl
  cases q with
  | cnt k =>
   have hk := fun S' => q21_1 w0 S' pars _ k k (cntP pars) 0 (fun S' => q4 w0 S' pars k)
   simp only [runS, List.map_cons, List.map_nil, acN_av] at h
   simp only [actV] at h hk
   simp only [Wy.av, Int.cast_ofNat_Int, sqV, oneV, go_sem] at hf ha
   clear hP hcc hok hlen
   refine en Tryz.func34 rfl Tryz.ntmps34 fun hO => ?_
   repeat' first | refine st ?_ | (refine ca ?_; first | apply hp | apply hk) | (refine br ?_ ?_; all_goals (intro hb; try simp only [bnn] at hb)) | refine sd ?_ | refine sx ?_ | apply pl_nil | (apply c_end; (· decide +kernel)) | refine bd ?_ ?_ | (refine cd ?_; first | apply hp | apply hk) | fail
   all_goals (apply f_ret; iterate 7 (· simp only [go_sem, *, Tryz.results34]; try rfl))
   all_goals exact h
  | first k =>
   have hk := fun S' => q21_1 w0 S' pars _ k k (valP pars 0 0) 0 (fun S' => q5 w0 S' pars k)
   simp only [runS, List.map_cons, List.map_nil, acN_av] at h
   simp only [actV] at h hk
   simp only [Wy.av, Int.cast_ofNat_Int, sqV, oneV, go_sem] at hf ha
   clear hP hcc hok hlen
   refine en Tryz.func34 rfl Tryz.ntmps34 fun hO => ?_
   repeat' first | refine st ?_ | (refine ca ?_; first | apply hp | apply hk) | (refine br ?_ ?_; all_goals (intro hb; try simp only [bnn] at hb)) | refine sd ?_ | refine sx ?_ | apply pl_nil | (apply c_end; (· decide +kernel)) | refine bd ?_ ?_ | (refine cd ?_; first | apply hp | apply hk) | fail
   all_goals (apply f_ret; iterate 7 (· simp only [go_sem, *, Tryz.results34]; try rfl))
   all_goals exact h
  | way k n =>
   have hk := fun S' => q21_6 w0 S' pars _ k n k n (cntP pars) (fun S' => q6 w0 S' pars k n)
   simp only [runS, List.map_cons, List.map_nil, acN_av] at h
   simp only [actV] at h hk
   simp only [Wy.av, Int.cast_ofNat_Int, sqV, oneV, go_sem] at hf ha
   clear hP hcc hok hlen
   refine en Tryz.func34 rfl Tryz.ntmps34 fun hO => ?_
   repeat' first | refine st ?_ | (refine ca ?_; first | apply hp | apply hk) | (refine br ?_ ?_; all_goals (intro hb; try simp only [bnn] at hb)) | refine sd ?_ | refine sx ?_ | apply pl_nil | (apply c_end; (· decide +kernel)) | refine bd ?_ ?_ | (refine cd ?_; first | apply hp | apply hk) | fail
   all_goals (apply f_ret; iterate 7 (· simp only [go_sem, *, Tryz.results34]; try rfl))
   all_goals exact h
  | cursor =>
   have hk := fun S' => q21_0 w0 S' pars _ 19 (cntP pars) (max 1 (valP pars 1 0)) (fun S' => q7 w0 S' pars)
   simp only [runS, List.map_cons, List.map_nil, acN_av] at h
   simp only [actV] at h hk
   simp only [Wy.av, Int.cast_ofNat_Int, sqV, oneV, go_sem] at hf ha
   clear hP hcc hok hlen
   refine en Tryz.func34 rfl Tryz.ntmps34 fun hO => ?_
   repeat' first | refine st ?_ | (refine ca ?_; first | apply hp | apply hk) | (refine br ?_ ?_; all_goals (intro hb; try simp only [bnn] at hb)) | refine sd ?_ | refine sx ?_ | apply pl_nil | (apply c_end; (· decide +kernel)) | refine bd ?_ ?_ | (refine cd ?_; first | apply hp | apply hk) | fail
   all_goals (apply f_ret; iterate 7 (· simp only [go_sem, *, Tryz.results34]; try rfl))
   all_goals exact h
  | modes k b =>
   have hk := fun S' => q31 w0 S' pars k b hlen
   simp only [Wy.av, Int.cast_ofNat_Int, sqV, oneV, go_sem] at hf ha
   have h : R (.ret (.sval false ((runS (.modes k b) pars).map Ac.av))) S := h
   generalize runS (.modes k b) pars = z at h hk
   clear hP hcc hok hlen
   refine en Tryz.func34 rfl Tryz.ntmps34 fun hO => ?_
   repeat' first | refine st ?_ | (refine ca ?_; first | apply hp | apply hk) | (refine br ?_ ?_; all_goals (intro hb; try simp only [bnn] at hb)) | refine sd ?_ | refine sx ?_ | apply pl_nil | (apply c_end; (· decide +kernel)) | refine bd ?_ ?_ | (refine cd ?_; first | apply hp | apply hk) | fail
   all_goals (apply f_ret; iterate 7 (· simp only [go_sem, *, Tryz.results34]; try rfl))
   all_goals exact h
  | ask n =>
   have hk := fun S' => q8 w0 S' pars n
   simp only [Wy.av, Int.cast_ofNat_Int, sqV, oneV, go_sem] at hf ha
   have h : R (.ret (.sval false ((runS (.ask n) pars).map Ac.av))) S := h
   generalize runS (.ask n) pars = z at h hk
   clear hP hcc hok hlen
   refine en Tryz.func34 rfl Tryz.ntmps34 fun hO => ?_
   repeat' first | refine st ?_ | (refine ca ?_; first | apply hp | apply hk) | (refine br ?_ ?_; all_goals (intro hb; try simp only [bnn] at hb)) | refine sd ?_ | refine sx ?_ | apply pl_nil | (apply c_end; (· decide +kernel)) | refine bd ?_ ?_ | (refine cd ?_; first | apply hp | apply hk) | fail
   all_goals (apply f_ret; iterate 7 (· simp only [go_sem, *, Tryz.results34]; try rfl))
   all_goals exact h
  | margins =>
   have hk := fun S' => q21_0 w0 S' pars _ 38 (valP pars 0 0) (valP pars 1 0) (fun S' => q9 w0 S' pars)
   simp only [runS, List.map_cons, List.map_nil, acN_av] at h
   simp only [actV] at h hk
   simp only [Wy.av, Int.cast_ofNat_Int, sqV, oneV, go_sem] at hf ha
   clear hP hcc hok hlen
   refine en Tryz.func34 rfl Tryz.ntmps34 fun hO => ?_
   repeat' first | refine st ?_ | (refine ca ?_; first | apply hp | apply hk) | (refine br ?_ ?_; all_goals (intro hb; try simp only [bnn] at hb)) | refine sd ?_ | refine sx ?_ | apply pl_nil | (apply c_end; (· decide +kernel)) | refine bd ?_ ?_ | (refine cd ?_; first | apply hp | apply hk) | fail
   all_goals (apply f_ret; iterate 7 (· simp only [go_sem, *, Tryz.results34]; try rfl))
   all_goals exact h
  | const k =>
   rcases hcc k rfl with rfl | rfl | rfl
   ·
    have hk := fun S' => q21_0 w0 S' pars _ 12 0 0 (fun S' => q10 w0 S' pars)
    simp only [runS, List.map_cons, List.map_nil, acN_av] at h
    simp only [actV] at h hk
    simp only [Wy.av, Int.cast_ofNat_Int, sqV, oneV, if_true, if_false, show ((13 : Int) = 12) = False from by decide, show ((15 : Int) = 12) = False from by decide, show ((15 : Int) = 13) = False from by decide, go_sem] at hf ha
    clear hP hcc hok hlen
    refine en Tryz.func34 rfl Tryz.ntmps34 fun hO => ?_
    repeat' first | refine st ?_ | (refine ca ?_; first | apply hp | apply hk) | (refine br ?_ ?_; all_goals (intro hb; try simp only [bnn] at hb)) | refine sd ?_ | refine sx ?_ | apply pl_nil | (apply c_end; (· decide +kernel)) | refine bd ?_ ?_ | (refine cd ?_; first | apply hp | apply hk) | fail
    all_goals (apply f_ret; iterate 7 (· simp only [go_sem, *, Tryz.results34]; try rfl))
    all_goals exact h
   ·
    have hk := fun S' => q21_0 w0 S' pars _ 13 0 0 (fun S' => q11 w0 S' pars)
    simp only [runS, List.map_cons, List.map_nil, acN_av] at h
    simp only [actV] at h hk
    simp only [Wy.av, Int.cast_ofNat_Int, sqV, oneV, if_true, if_false, show ((13 : Int) = 12) = False from by decide, show ((15 : Int) = 12) = False from by decide, show ((15 : Int) = 13) = False from by decide, go_sem] at hf ha
    clear hP hcc hok hlen
    refine en Tryz.func34 rfl Tryz.ntmps34 fun hO => ?_
    repeat' first | refine st ?_ | (refine ca ?_; first | apply hp | apply hk) | (refine br ?_ ?_; all_goals (intro hb; try simp only [bnn] at hb)) | refine sd ?_ | refine sx ?_ | apply pl_nil | (apply c_end; (· decide +kernel)) | refine bd ?_ ?_ | (refine cd ?_; first | apply hp | apply hk) | fail
    all_goals (apply f_ret; iterate 7 (· simp only [go_sem, *, Tryz.results34]; try rfl))
    all_goals exact h
   ·
    have hk := fun S' => q21_0 w0 S' pars _ 15 0 0 (fun S' => q14 w0 S' pars)
    simp only [runS, List.map_cons, List.map_nil, acN_av] at h
    simp only [actV] at h hk
    simp only [Wy.av, Int.cast_ofNat_Int, sqV, oneV, if_true, if_false, show ((13 : Int) = 12) = False from by decide, show ((15 : Int) = 12) = False from by decide, show ((15 : Int) = 13) = False from by decide, go_sem] at hf ha
    clear hP hcc hok hlen
    refine en Tryz.func34 rfl Tryz.ntmps34 fun hO => ?_
    repeat' first | refine st ?_ | (refine ca ?_; first | apply hp | apply hk) | (refine br ?_ ?_; all_goals (intro hb; try simp only [bnn] at hb)) | refine sd ?_ | refine sx ?_ | apply pl_nil | (apply c_end; (· decide +kernel)) | refine bd ?_ ?_ | (refine cd ?_; first | apply hp | apply hk) | fail
    all_goals (apply f_ret; iterate 7 (· simp only [go_sem, *, Tryz.results34]; try rfl))
    all_goals exact h
  | pens =>
   have hk := fun S' => q12 w0 (hP rfl) S' pars hok
   simp only [Wy.av, Int.cast_ofNat_Int, sqV, oneV, go_sem] at hf ha
   have h : R (.ret (.sval false ((pensS pars).map Ac.av))) S := h
   generalize pensS pars = z at h hk
   clear hP hcc hok hlen
   refine en Tryz.func34 rfl Tryz.ntmps34 fun hO => ?_
   repeat' first | refine st ?_ | (refine ca ?_; first | apply hp | apply hk) | (refine br ?_ ?_; all_goals (intro hb; try simp only [bnn] at hb)) | refine sd ?_ | refine sx ?_ | apply pl_nil | (apply c_end; (· decide +kernel)) | refine bd ?_ ?_ | (refine cd ?_; first | apply hp | apply hk) | fail
   all_goals (apply f_ret; iterate 7 (· simp only [go_sem, *, Tryz.results34]; try rfl))
   all_goals exact h
  | shape =>
   have hk := fun S' => q21_0 w0 S' pars _ 40 (valP pars 0 0) 0 (fun S' => q13 w0 S' pars)
   simp only [runS, List.map_cons, List.map_nil, acN_av] at h
   simp only [actV] at h hk
   simp only [Wy.av, Int.cast_ofNat_Int, sqV, oneV, go_sem] at hf ha
   clear hP hcc hok hlen
   refine en Tryz.func34 rfl Tryz.ntmps34 fun hO => ?_
   repeat' first | refine st ?_ | (refine ca ?_; first | apply hp | apply hk) | (refine br ?_ ?_; all_goals (intro hb; try simp only [bnn] at hb)) | refine sd ?_ | refine sx ?_ | apply pl_nil | (apply c_end; (· decide +kernel)) | refine bd ?_ ?_ | (refine cd ?_; first | apply hp | apply hk) | fail
   all_goals (apply f_ret; iterate 7 (· simp only [go_sem, *, Tryz.results34]; try rfl))
   all_goals exact h
  | askMode n =>
   have hk := fun S' => q21_1 w0 S' pars _ n 43 (valP pars 0 0) n (fun S' => q15 w0 S' pars n)
   simp only [runS, List.map_cons, List.map_nil, acN_av] at h
   simp only [actV] at h hk
   simp only [Wy.av, Int.cast_ofNat_Int, sqV, oneV, go_sem] at hf ha
   clear hP hcc hok hlen
   refine en Tryz.func34 rfl Tryz.ntmps34 fun hO => ?_
   repeat' first | refine st ?_ | (refine ca ?_; first | apply hp | apply hk) | (refine br ?_ ?_; all_goals (intro hb; try simp only [bnn] at hb)) | refine sd ?_ | refine sx ?_ | apply pl_nil | (apply c_end; (· decide +kernel)) | refine bd ?_ ?_ | (refine cd ?_; first | apply hp | apply hk) | fail
   all_goals (apply f_ret; iterate 7 (· simp only [go_sem, *, Tryz.results34]; try rfl))
   all_goals exact h
def AcB (a : Ac) : Prop := (-100000 ≤ a.m ∧ a.m ≤ 100000) ∧ a.text.length ≤ 8192
theorem valP_le {l : List (List Int)} (h : okRow l = true) (i : Int) : 0 ≤ valP l i 0 ∧ valP l i 0 ≤ 9999 := by
 unfold okRow at h
 simp only [Bool.and_eq_true, Bool.not_eq_true', List.any_eq_false] at h
 unfold valP
 split
 ·omega
 ·split
  ·next n s hx =>
   have hm := h.2.2 _ (List.mem_of_getElem? hx)
   unfold badS at hm
   simp only [Bool.or_eq_true, not_or, Bool.not_eq_true, List.any_cons, Bool.or_eq_false_iff] at hm
   have hn := hm.2.2.1
   unfold badN at hn
   simp only [Bool.or_eq_false_iff, decide_eq_false_iff_not] at hn
   split <;> omega
  ·omega
theorem cntP_le {l : List (List Int)} (h : okRow l = true) : 1 ≤ cntP l ∧ cntP l ≤ 9999 := by
 have := valP_le h 0
 unfold cntP
 split <;> omega
theorem AcB_N (k n m : Int) (h1 : -100000 ≤ m) (h2 : m ≤ 100000) : AcB (acN k n m) := ⟨⟨h1, h2⟩, by simp [acN]⟩
theorem ite_or {c : Prop} [Decidable c] {x a : Ac} {r : Option Ac} (h : (if c then some x else r) = some a) : x = a ∨ r = some a := by
 split at h
 ·cases h; exact .inl rfl
 ·exact .inr h
theorem pen_B (n m : Int) (h1 : -100000 ≤ m) (h2 : m ≤ 100000) : AcB (penA n m) := ⟨⟨h1, h2⟩, by simp [penA]⟩
theorem col_B (n k c : Int) : AcB (colA n k c) := ⟨by simp [colA], by simp [colA]⟩
theorem sim_B {v : Int} {a : Ac} (h : simS v = some a) : AcB a := by
 unfold simS at h
 iterate 26 (rcases ite_or h with h | h; · subst h; first | exact pen_B _ _ (by decide) (by decide) | exact col_B _ _ _)
 cases h
theorem shade_B {n how : Int} {l : List Int} {a : Ac} (h : shadeS n how l = some a) : AcB a := by
 unfold shadeS at h
 repeat' split at h
 all_goals first | (cases h; done) | (cases h; exact ⟨by simp [colA], by simp [colA]⟩)
theorem parts_B {s : List Int} {a : Ac} (h : partsS s = some a) : AcB a := by
 unfold partsS at h
 split at h
 ·split at h
  ·next h5 => cases h; exact ⟨⟨by simp only [penA]; omega, by simp only [penA]; omega⟩, by simp [penA]⟩
  ·cases h
 ·split at h
  ·cases h
  ·split at h
   ·exact shade_B h
   ·split at h
    ·exact shade_B h
    ·cases h
theorem front_B {l : List (List Int)} {a : Ac} (h : (frontS l).1 = some a) : AcB a := by
 unfold frontS at h
 split at h
 ·exact parts_B h
 ·split at h
  ·split at h
   ·split at h
    ·exact shade_B h
    ·cases h
   ·split at h
    ·split at h
     ·exact shade_B h
     ·cases h
    ·exact sim_B h
  ·exact sim_B h
theorem pensF_B : ∀ (k : Nat) (l : List (List Int)), ∀ a ∈ pensF k l, AcB a
 | 0, _, a, h => by cases h
 | k + 1, l, a, h => by
  unfold pensF at h
  split at h
  ·cases h
  ·rcases List.mem_append.1 h with h | h
   ·exact front_B (by simpa using h)
   ·exact pensF_B k _ a h
theorem pensS_B (l : List (List Int)) : ∀ a ∈ pensS l, AcB a := by
 intro a h
 unfold pensS at h
 split at h
 ·rw [List.mem_singleton.1 h]; exact ⟨by decide, by decide⟩
 ·exact pensF_B _ _ a h
def bitsOk : Sq → Bool
 | .modes _ b => decide (-1000 ≤ b) && decide (b ≤ 1000)
 | .askMode n => decide (-1000 ≤ n) && decide (n ≤ 1000)
 | _ => true
theorem run_B {q : Sq} {l : List (List Int)} (h : okRow l = true) (hq : bitsOk q = true) : ∀ a ∈ runS q l, AcB a := by
 have h0 := valP_le h 0
 have h1 := valP_le h 1
 have hc := cntP_le h
 intro a ha
 cases q with
 | cnt k => rw [List.mem_singleton.1 ha]; exact AcB_N _ _ _ (by omega) (by omega)
 | first k => rw [List.mem_singleton.1 ha]; exact AcB_N _ _ _ (by omega) (by omega)
 | way k n => rw [List.mem_singleton.1 ha]; exact AcB_N _ _ _ (by omega) (by omega)
 | cursor => rw [List.mem_singleton.1 ha]; exact AcB_N _ _ _ (by omega) (by omega)
 | modes k b =>
  simp only [bitsOk, Bool.and_eq_true, decide_eq_true_eq] at hq
  obtain ⟨i, _, rfl⟩ := List.mem_map.1 ha
  exact AcB_N _ _ _ (by omega) (by omega)
 | ask n =>
  simp only [runS] at ha
  split at ha
  ·rw [List.mem_singleton.1 ha]; exact AcB_N _ _ _ (by omega) (by omega)
  ·cases ha
 | margins => rw [List.mem_singleton.1 ha]; exact AcB_N _ _ _ (by omega) (by omega)
 | const k => rw [List.mem_singleton.1 ha]; exact AcB_N _ _ _ (by omega) (by omega)
 | pens => exact pensS_B l a ha
 | shape => rw [List.mem_singleton.1 ha]; exact AcB_N _ _ _ (by omega) (by omega)
 | askMode n =>
  simp only [bitsOk, Bool.and_eq_true, decide_eq_true_eq] at hq
  rw [List.mem_singleton.1 ha]; exact AcB_N _ _ _ (by omega) (by omega)
theorem seq_bits {w : Wy} {q : Sq} (h : seqF w = some q) : bitsOk q = true := by
 unfold seqF at h
 obtain ⟨p, hp, rfl⟩ := Option.map_eq_some_iff.1 h
 have hm := List.mem_of_find?_eq_some hp
 have hall : (seqT.all fun p => bitsOk p.2) = true := by decide
 exact List.all_eq_true.1 hall p hm
theorem find_all {α β : Type} {f : α × β → Bool} {l : List (α × β)} {g : β → Bool} {b : β} (hg : l.all (fun p => g p.2) = true) (h : (l.find? f).map (·.2) = some b) : g b = true := by
 obtain ⟨p, hp, rfl⟩ := Option.map_eq_some_iff.1 h
 exact List.all_eq_true.1 hg p (List.mem_of_find?_eq_some hp)
def plainB (a : Ac) : Bool := decide (-100000 ≤ a.m) && (decide (a.m ≤ 100000) && decide (a.text.length ≤ 8192))
theorem plainB_B {a : Ac} (h : plainB a = true) : AcB a := by
 unfold plainB at h
 simp only [Bool.and_eq_true, decide_eq_true_eq] at h
 exact ⟨⟨h.1, h.2.1⟩, h.2.2⟩
theorem parse_B {s : List UInt8} {a : Ac} (h : parseO s = some a) : AcB a := by
 obtain ⟨⟨u, hu⟩, _⟩ := parse_valid h
 have hl := (parse_print hu).2.2.1
 rcases print_kinds hu with ⟨t, rfl, _, rfl⟩ | ⟨n, c, rfl, _⟩ | ⟨t, rfl, ht, _⟩
 ·exact ⟨by simp, by simp at hl ⊢; omega⟩
 ·exact ⟨by simp, by simp⟩
 ·exact ⟨by simp, by simp; omega⟩
theorem all_B {e : Ev} (h : evOk e = true) : ∀ a ∈ allS e, AcB a := by
 unfold evOk at h
 simp only [Bool.and_eq_true] at h
 have hr := h.2
 intro a ha
 unfold allS at ha
 split at ha
 ·rw [List.mem_singleton.1 ha]; exact AcB_N _ _ _ (by decide) (by decide)
 ·split at ha
  ·have ha : ctlF e.code = some a := by simpa using ha
   exact plainB_B (find_all (g := plainB) (l := ctlT) (by decide) ha)
  ·split at ha
   ·have ha : escF ⟨0, e.inter, e.fin⟩ = some a := by simpa using ha
    exact plainB_B (find_all (g := plainB) (l := escT) (by decide) ha)
   ·split at ha
    ·unfold csiS at ha
     split at ha
     ·next q hq => exact run_B hr (seq_bits hq) a ha
     ·cases ha
    ·split at ha
     ·exact parse_B (by simpa using ha)
     ·cases ha
theorem aAll (w0 : World) (hQ : ParseOk w0) (S : List Blk) (e : Ev) (hr : okRow e.pars = true) (ht : e.text.length ≤ 8192) (hP : e.kind = 4 → seqF ⟨e.priv, e.inter, e.fin⟩ = some .pens → PensOk w0) (R : Rt) (h : R (.ret (.sval false ((allS e).map Ac.av))) S) : ACall Tryz.prog w0 34 [e.av] S R := by
 obtain ⟨k, c, pr, fi, pars, it, tx⟩ := e
 unfold allS at h
 simp only at h hr ht hP
 unfold Ev.av
 simp only
 by_cases h1 : k = 1
 ·subst h1; rw [if_pos rfl] at h; exact aAll1 w0 S c pr fi pars it tx R h
 rw [if_neg h1] at h
 by_cases h2 : k = 2
 ·subst h2; rw [if_pos rfl] at h; exact aAll2 w0 S c pr fi pars it tx R h
 rw [if_neg h2] at h
 by_cases h3 : k = 3
 ·subst h3; rw [if_pos rfl] at h; exact aAll3 w0 S c pr fi pars it tx R h
 rw [if_neg h3] at h
 by_cases h4 : k = 4
 ·subst h4; rw [if_pos rfl] at h; exact aAll4 w0 S c pr fi pars it tx hr (hP rfl) R h
 rw [if_neg h4] at h
 by_cases h5 : k = 5
 ·subst h5; rw [if_pos rfl] at h; exact aAll5 w0 S c pr fi pars it tx hQ ht R h
 rw [if_neg h5] at h
 exact aAll0 k (beq_eq_false_iff_ne.2 h1) (beq_eq_false_iff_ne.2 h2) (beq_eq_false_iff_ne.2 h3) (beq_eq_false_iff_ne.2 h4) (beq_eq_false_iff_ne.2 h5) w0 S c pr fi pars it tx R h
theorem pensF_len : ∀ (k : Nat) (l : List (List Int)), (pensF k l).length ≤ k
 | 0, _ => Nat.le_refl _
 | k + 1, l => by
  unfold pensF
  split
  ·simp
  ·have := pensF_len k (l.drop (frontS l).2)
   have h2 : (frontS l).1.toList.length ≤ 1 := by cases (frontS l).1 <;> simp
   rw [List.length_append]; omega
theorem toList_len {α : Type} (o : Option α) : o.toList.length ≤ 1 := by cases o <;> simp
theorem all_len {e : Ev} (h : evOk e = true) : (allS e).length ≤ 100 := by
 unfold evOk okRow at h
 simp only [Bool.and_eq_true, decide_eq_true_eq] at h
 have hl := h.2.1
 unfold allS
 split
 ·simp
 ·split
  ·have := toList_len (ctlF e.code); omega
  ·split
   ·have := toList_len (escF ⟨0, e.inter, e.fin⟩); omega
   ·split
    ·unfold csiS
     split
     ·next q _ =>
      cases q
      all_goals simp only [runS, List.length_cons, List.length_nil, List.length_map, List.length_range]
      all_goals (try omega)
      ·split <;> simp
      ·unfold pensS
       split
       ·simp
       ·have := pensF_len e.pars.length e.pars; omega
     ·simp
    ·split
     ·have := toList_len (parseO e.text); omega
     ·simp
theorem filt_succ {α : Type} {p : α → Bool} {l : List α} {i : Nat} {x : α} (h : l[i]? = some x) : (l.take (i + 1)).filter p = (l.take i).filter p ++ (if p x then [x] else []) := by
 rw [List.take_add_one, h, List.filter_append]
 congr 1
 simp only [Option.toList_some]
 cases hp : p x
 ·rw [List.filter_cons_of_neg (by simp [hp])]; rfl
 ·rw [List.filter_cons_of_pos hp]; rfl
set_option maxHeartbeats 16000000 in
theorem aOf (w0 : World) (hM : MarksOk w0) (hW : WidesOk w0) (hQ : PrintOk w0) (hQ2 : ParseOk w0) (S : List Blk) (e : Ev) (hl : ShortR e.pars) (ht : e.text.length ≤ 8192) (hP : evOk e = true → e.kind = 4 → seqF ⟨e.priv, e.inter, e.fin⟩ = some .pens → PensOk w0) (R : Rt)
  (h : R (.ret (.tup [.sval false ((ofS e).map Ac.av), .int .i64 (if evOk e then 0 else 201)])) S) : ACall Tryz.prog w0 17 [e.av] S R := by
 have hck := fun S' => aCheckEv w0 S' e hl
 unfold ofS at h
 cases hok : evOk e with
 | false =>
  rw [hok] at h hck
  simp only [Bool.false_eq_true, if_false, List.map_nil] at h hck
  unfold Ev.av at hck ⊢
  clear hM hW hQ hQ2 hl ht hP hok
  refine en Tryz.func17 rfl Tryz.ntmps17 fun hO => ?_
  repeat' first | refine st ?_ | (refine ca ?_; first | apply hck) | (refine br ?_ ?_; all_goals (intro hb; try simp only [bnn] at hb)) | fail
  (apply f_ret; iterate 7 (· simp only [go_sem, *, Tryz.results17]; try rfl))
  exact h
 | true =>
  have hokr : okRow e.pars = true := by unfold evOk at hok; simp only [Bool.and_eq_true] at hok; exact hok.2
  have hal := fun S' => aAll w0 hQ2 S' e hokr ht (hP hok)
  have hB := all_B hok
  have hLn := all_len hok
  rw [hok] at h hck
  simp only [if_true] at h hck
  generalize allS e = L at h hal hB hLn
  have hcf := fun S' (a : Ac) (hb : AcB a) => aCheck w0 hM hW hQ S' a ⟨by have := hb.1; omega, by have := hb.1; omega⟩ (by have := hb.2; omega)
  unfold Ev.av at hck hal ⊢
  have H := Lib.hid h
  have HB := Lib.hid hB
  have HC := Lib.hid hcf
  clear hM hW hQ hQ2 hl ht hP hok hokr hcf hB h
  refine en Tryz.func17 rfl Tryz.ntmps17 fun hO => ?_
  repeat' first | refine st ?_ | (refine ca ?_; first | apply hck | apply hal) | (refine br ?_ ?_; all_goals (intro hb; try simp only [bnn] at hb)) | fail
  refine x_thaw (t := 2) (e := 25) (sz := 6) (by (simp only [go_sem, *]; try rfl)) (by decide) ?_
  refine x_ind (fun (j : Nat) env S' => j ≤ L.length ∧ env 1000000 = .dfr [] ∧ env 2 = .sown (S.length + 1) ((L.take j).filter actOk).length ((L.take j).filter actOk).length ∧ env 13 = .sval false (L.map Ac.av) ∧ env 14 = .int .i64 (L.length : Int) ∧ env 15 = .int .i64 (j : Int) ∧
   S' = S ++ [.cells [.int .i64 e.kind, .int .i64 e.code, .int .u8 e.priv, .int .u8 e.fin, .sval false (e.pars.map PmV), .str e.inter, .str e.text] none, .arr 25 6 0 ((L.take j).filter actOk).length (((L.take j).filter actOk).map Ac.av)]) (fun j => L.length - j) 0 ?_ ?_
  ·exact ⟨Nat.zero_le _, by (simp only [go_sem, *]; try rfl), by (simp only [go_sem, *]; try rfl), by (simp only [go_sem, *]; try rfl), by (simp only [go_sem, *]; try rfl), by (simp only [go_sem, *]; try rfl), by simp only [List.take_zero, List.filter_nil, List.map_nil, List.length_nil]; (simp only [go_sem, *]; try rfl)⟩
  ·rintro j env S' ⟨hj, e0, f2, f13, f14, f15, rfl⟩ IH
   have HI := Lib.hid IH
   clear IH hck hal
   have hfl : ((L.take j).filter actOk).length ≤ 100 := Nat.le_trans (List.length_filter_le _ _) (Nat.le_trans (List.length_take_le' _ _) hLn)
   by_cases hlt : j < L.length
   ·obtain ⟨a, hx⟩ : ∃ a, L[j]? = some a := ⟨_, List.getElem?_eq_getElem hlt⟩
    have h1 : decide ((j : Int) < (L.length : Int)) = true := by simpa using hlt
    have hw : IntKind.i64.wrap ((j : Int) + 1) = ((j + 1 : Nat) : Int) := by rw [IntWalk.i64_in _ (by omega)]; omega
    have Hsu := Lib.hid (filt_succ (p := actOk) hx)
    have hc := fun S' => HC.out S' a (HB.out a (List.mem_of_getElem? hx))
    generalize (L.take j).filter actOk = F at hfl Hsu f2 ⊢
    have hb : (F.length + 1) * 56 ≤ 140737488355328 := by omega
    have Hlt := Lib.hid hlt
    obtain ⟨k1, k2, k3, k4, k5, k6⟩ := a
    have hav : Ac.av ⟨k1, k2, k3, k4, k5, k6⟩ = .agg [.int .i64 k1, .int .i64 k2, .int .i64 k3, .int .i64 k4, .int .i64 k5, .str k6] := rfl
    rw [hav] at hc
    clear hlt hj hfl hLn
    cases ha : actOk ⟨k1, k2, k3, k4, k5, k6⟩
    ·rw [ha] at hc
     simp only [Bool.false_eq_true, if_false] at hc
     repeat' first | refine st ?_ | (refine ca ?_; first | apply hc) | (refine br ?_ ?_; all_goals (intro hb; try simp only [bnn] at hb)) | fail
     refine x_keep hO 2 [2, 13, 14, 15] rfl (by (simp only [go_sem, *]; try rfl)) (by (simp only [go_sem, *]; try rfl)) ?_ ?_
     ·(simp only [go_sem, *]; try rfl)
     simp only [List.take_succ_cons, List.take_zero]
     refine HI.out (j + 1) _ _ (by have := Hlt.out; omega) ⟨Hlt.out, ?_, ?_, ?_, ?_, ?_, ?_⟩
     ·(simp only [go_sem, *]; try rfl)
     ·rw [Hsu.out, ha]; simp only [Bool.false_eq_true, if_false, List.append_nil]; (simp only [go_sem, *]; try rfl)
     ·(simp only [go_sem, *]; try rfl)
     ·(simp only [go_sem, *]; try rfl)
     ·(simp only [go_sem, *]; try rfl)
     ·rw [Hsu.out, ha]; simp only [Bool.false_eq_true, if_false, List.append_nil]
    ·rw [ha] at hc
     simp only [if_true] at hc
     repeat' first | refine st ?_ | (refine ca ?_; first | apply hc) | (refine br ?_ ?_; all_goals (intro hb; try simp only [bnn] at hb)) | fail
     refine x_keep hO 2 [2, 13, 14, 15] rfl (by (simp only [go_sem, *]; try rfl)) (by (simp only [go_sem, *]; try rfl)) ?_ ?_
     ·(simp only [go_sem, *]; try rfl)
     simp only [List.take_succ_cons, List.take_zero]
     refine HI.out (j + 1) _ _ (by have := Hlt.out; omega) ⟨Hlt.out, ?_, ?_, ?_, ?_, ?_, ?_⟩
     ·(simp only [go_sem, *]; try rfl)
     ·rw [Hsu.out, ha]; simp only [if_true, List.length_append, List.length_cons, List.length_nil, Nat.zero_add]; (simp only [go_sem, *]; try rfl)
     ·(simp only [go_sem, *]; try rfl)
     ·(simp only [go_sem, *]; try rfl)
     ·(simp only [go_sem, *]; try rfl)
     ·rw [Hsu.out, ha]; simp only [if_true, List.length_append, List.length_cons, List.length_nil, Nat.zero_add, List.map_append, List.map_cons, List.map_nil, hav]
   ·have h1 : decide ((j : Int) < (L.length : Int)) = false := by simpa using hlt
    have htk : L.take j = L := List.take_of_length_le (by omega)
    have hh := H.out
    rw [htk] at f2 ⊢
    generalize L.filter actOk = F at hh f2 ⊢
    have hle : (F.map Ac.av).length = F.length := by simp
    clear hlt hj hfl hLn htk HI H
    repeat' first | refine st ?_ | (refine br ?_ ?_; all_goals (intro hb; try simp only [bnn] at hb)) | fail
    (apply f_ret; iterate 7 (· simp only [go_sem, *, Tryz.results17]; try rfl))
    exact hh
def lastR (l : List (List Int)) : List (List Int) := if l = [] then [[-1]] else l
def stepP (l : List (List Int)) (c : Nat) : List (List Int) × Int :=
 if c = 59 then (if (lastR l).length < 16 then (lastR l ++ [[-1]], 0) else ([], 3))
 else if c = 58 then (if ((lastR l).getLastD []).length < 6 then ((lastR l).dropLast ++ [(lastR l).getLastD [] ++ [-1]], 0) else ([], 3))
 else if 48 ≤ c ∧ c ≤ 57 then ((lastR l).dropLast ++ [((lastR l).getLastD []).dropLast ++ [min (max 0 (((lastR l).getLastD []).getLastD 0) * 10 + ((c : Int) - 48)) 9999]], 0)
 else ([], 6)
structure Ps where
 st : Nat
 utf : List Nat
 pv : Nat
 fn : Nat
 pars : List (List Int)
 inter : List UInt8
 text : List UInt8
 bad : Bool
 deriving DecidableEq
def Ps.av (p : Ps) : AV := .agg [.int .i64 p.st, .sval false (p.utf.map By), .int .u8 p.pv, .int .u8 p.fn, .sval false (p.pars.map PmV), .str p.inter, .str p.text, .bool p.bad]
def begS (n : Nat) : Ps := ⟨n, [], 0, 0, [], [], [], false⟩
def spoS (n : Nat) : Ps := ⟨n, [], 0, 0, [], [], [], true⟩
def evPrint (c : Nat) : Ev := ⟨1, c, 0, 0, [], [], []⟩
def evCtl (c : Nat) : Ev := ⟨2, c, 0, 0, [], [], []⟩
def evEsc (i : List UInt8) (b : Nat) : Ev := ⟨3, 0, 0, b, [], i, []⟩
def evCsi (p : Ps) (b : Nat) : Ev := ⟨4, 0, p.pv, b, p.pars, p.inter, []⟩
def evOsc (p : Ps) : Ev := ⟨5, 0, 0, 0, [], [], p.text⟩
def evDcs (p : Ps) : Ev := ⟨6, 0, p.pv, p.fn, p.pars, p.inter, p.text⟩
def dispS (p : Ps) (e : Ev) : Ps × List Ev := (begS 0, if p.bad then [] else [e])
def signS (p : Ps) (b : Nat) : Ps := if p.bad ∨ p.inter.length = 2 then spoS p.st else { p with inter := p.inter ++ [UInt8.ofNat b] }
def digS (p : Ps) (b : Nat) : Ps := if (stepP p.pars b).2 ≠ 0 ∨ p.bad then spoS p.st else { p with pars := (stepP p.pars b).1 }
def lastS (p : Ps) (b : Nat) : Ps × List Ev := if p.st ≤ 5 then dispS p (evCsi p b) else ({ p with st := 11, fn := if p.bad then p.fn else b }, [])
def escS (p : Ps) (b : Nat) : Ps × List Ev :=
 if b = 91 then (begS 3, []) else if b = 93 then (begS 6, []) else if b = 80 then (begS 8, []) else if b = 88 ∨ b = 94 ∨ b = 95 then (begS 13, [])
 else if b < 48 then (signS (begS 2) b, []) else dispS p (evEsc [] b)
def signsS (p : Ps) (b : Nat) : Ps × List Ev := if b < 48 then (signS p b, []) else dispS p (evEsc p.inter b)
def entryS (p : Ps) (b : Nat) : Ps × List Ev :=
 if b < 48 then (signS (begS (p.st + 2)) b, []) else if b < 60 then (digS (begS (p.st + 1)) b, []) else if b < 64 then ({ begS (p.st + 1) with pv := b }, []) else lastS p b
def paramsS (p : Ps) (b : Nat) : Ps × List Ev :=
 if b < 48 then (signS { p with st := p.st + 1 } b, []) else if b < 60 then (digS p b, []) else if b < 64 then (spoS p.st, []) else lastS p b
def intersS (p : Ps) (b : Nat) : Ps × List Ev := if b < 48 then (signS p b, []) else if b < 64 then (spoS p.st, []) else lastS p b
def goesS (p : Ps) (b : Nat) : Ps × List Ev :=
 match p.st with
 | 0 => (p, [evPrint b])
 | 1 => escS p b
 | 2 => signsS p b
 | 3 | 8 => entryS p b
 | 4 | 9 => paramsS p b
 | 5 | 10 => intersS p b
 | _ => (p, [])
def ctlS (b : Nat) : Ps × List Ev := if b = 24 ∨ b = 26 then (begS 0, []) else if b = 27 then (begS 1, []) else if b < 32 then (begS 0, [evCtl b]) else (begS 0, [])
def codeS (q : Ps × List Ev) (c : Nat) : Ps × List Ev :=
 if c < 32 ∨ c = 127 then ((ctlS c).1, q.2 ++ (ctlS c).2) else if c < 127 ∨ 159 < c then (q.1, q.2 ++ [evPrint c]) else q
def printS (p : Ps) (b : Nat) : Ps × List Ev := (stepU p.utf b).2.foldl codeS ({ begS 0 with utf := (stepU p.utf b).1 }, [])
def inText (n : Nat) : Bool := n == 6 || (n == 11 || n == 13)
def inEsc (n : Nat) : Bool := n == 7 || (n == 12 || n == 14)
def withinS (p : Ps) (b : Nat) : Ps × List Ev :=
 if b = 7 ∧ p.st = 6 then dispS p (evOsc p) else if b < 32 ∨ b = 127 ∨ p.st = 13 ∨ p.bad then (p, []) else if p.text.length = 512 then (spoS p.st, []) else ({ p with text := p.text ++ [UInt8.ofNat b] }, [])
def take1 (p : Ps) (b : Nat) : Ps × List Ev :=
 if p.st = 0 ∧ (p.utf ≠ [] ∨ 128 ≤ b) then printS p b
 else if b = 24 ∨ b = 26 then (begS 0, [])
 else if b = 27 then (if inText p.st then ({ p with st := p.st + 1 }, []) else (begS 1, []))
 else if inText p.st then withinS p b
 else if 128 ≤ b then printS (begS 0) b
 else if b < 32 then (p, if p.st ≤ 5 then [evCtl b] else [])
 else if b = 127 then (p, [])
 else goesS p b
def endS (p : Ps) (b : Nat) : Ps × List Ev :=
 if b ≠ 92 then take1 (begS 1) b else if p.st = 7 then dispS p (evOsc p) else if p.st = 12 then dispS p (evDcs p) else (begS 0, [])
def takeS (p : Ps) (b : Nat) : Ps × List Ev := if inEsc p.st ∧ ¬ (b = 24 ∨ b = 26 ∨ b = 27) then endS p b else take1 p b
def feedS (p : Ps) (s : List Nat) : Ps × List Ev := s.foldl (fun q b => ((takeS q.1 b).1, q.2 ++ (takeS q.1 b).2)) (p, [])
structure PsI (p : Ps) : Prop where
 st : p.st ≤ 14
 utf : rightU p.utf = true
 byt : ∀ x ∈ p.utf, x < 256
 pv : p.pv < 256
 fn : p.fn < 256
 pars : okRow p.pars = true
 inter : p.inter.length ≤ 2
 text : p.text.length ≤ 512
end Go.Proofs.YthdbijpefkapnaaGreatDoor
