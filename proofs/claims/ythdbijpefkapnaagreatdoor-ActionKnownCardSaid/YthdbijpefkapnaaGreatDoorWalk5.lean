/- YthdbijpefkapnaaGreatDoorWalk5. Texts of the proof of a law about texts: a layer of abstract values above the worlds, the types, the walks of the functions that the law reaches, the law and its card. Own work of an AI agent. -/
import Derived.Test.YthdbijpefkapnaaGreatDoorWalk4
import Derived.Test.YthdbijpefkapnaaGreatDoorWalk3
import Derived.Test.YthdbijpefkapnaaGreatDoorCore2
import Derived.Test.YthdbijpefkapnaaGreatDoorCards
import Derived.Test.YthdbijpefkapnaaGreatDoorTie
import Derived.ProofKit
import Derived.OpenShut
import Derived.LaidMore
import Derived.Lay
import Derived.SevenTiedAt
import Derived.Stop.Joined
set_option linter.all false
set_option linter.unusedVariables false
set_option linter.unusedSimpArgs false
namespace Go.Proofs.YthdbijpefkapnaaGreatDoor
open Go Go.Fen
set_option linter.unusedSimpArgs false
set_option linter.unusedVariables false
attribute [local irreducible] RunX WP ACall AnyP OpA ProtL afterCall afterOp
set_option maxRecDepth 8000
theorem chkC (w0 : World) (hB : Base w0) (a : Ac) (v : Int) (hv : (if actOk a then 0 else 200) = v) (hm : I64 a.m) (ht : a.text.length ≤ 10000) : ∀ (S : List Blk) (R : Rt), R (.ret (.int .i64 v)) S → ACall Tryz.prog w0 11 [a.av] S R := by
 intro S R h
 subst hv
 exact aCheck w0 hB.hM hB.hW hB.hQ S a hm ht R h
theorem ofC (w0 : World) (hB : Base w0) (e : Ev) (L : List Ac) (v : Int) (hl : ShortR e.pars) (ht : e.text.length ≤ 8192) (hp : evOk e = true → e.kind = 4 → seqF ⟨e.priv, e.inter, e.fin⟩ = some .pens → False) (h1 : ofS e = L) (h2 : (if evOk e then 0 else 201) = v) : ∀ (S : List Blk) (R : Rt), R (.ret (.tup [.sval false (L.map Ac.av), .int .i64 v])) S → ACall Tryz.prog w0 17 [e.av] S R := by
 intro S R h
 subst h1 h2
 exact aOf w0 hB.hM hB.hW hB.hQ hB.hP S e hl ht (fun a b c => (hp a b c).elim) R h
theorem ik0 (w0 : World) (hB : Base w0) : ∀ (S : List Blk) (R : Rt), R (.ret (.bool true)) S → ACall Tryz.prog w0 19 [.str [7, 8, 9, 10, 11, 12, 13, 14, 15, 0, 1, 16, 31], .sval false [.agg [.int .i64 2, .int .i64 0, .int .i64 0, .int .i64 0, .int .i64 0, .str []], .agg [.int .i64 3, .int .i64 0, .int .i64 0, .int .i64 0, .int .i64 0, .str []], .agg [.int .i64 4, .int .i64 0, .int .i64 0, .int .i64 0, .int .i64 0, .str []], .agg [.int .i64 5, .int .i64 0, .int .i64 0, .int .i64 0, .int .i64 0, .str []], .agg [.int .i64 5, .int .i64 0, .int .i64 0, .int .i64 0, .int .i64 0, .str []], .agg [.int .i64 5, .int .i64 0, .int .i64 0, .int .i64 0, .int .i64 0, .str []], .agg [.int .i64 6, .int .i64 0, .int .i64 0, .int .i64 0, .int .i64 0, .str []], .agg [.int .i64 7, .int .i64 1, .int .i64 0, .int .i64 0, .int .i64 0, .str []], .agg [.int .i64 7, .int .i64 0, .int .i64 0, .int .i64 0, .int .i64 0, .str []]]] S R :=
 fun S R h => isC w0 hB [7, 8, 9, 10, 11, 12, 13, 14, 15, 0, 1, 16, 31] [acN 2 0 0, acN 3 0 0, acN 4 0 0, acN 5 0 0, acN 5 0 0, acN 5 0 0, acN 6 0 0, acN 7 1 0, acN 7 0 0] (by decide +kernel) (by decide +kernel) S R h
theorem ik1 (w0 : World) (hB : Base w0) : ∀ (S : List Blk) (R : Rt), R (.ret (.bool true)) S → ACall Tryz.prog w0 19 [.str [27, 68, 27, 69, 27, 72, 27, 77, 27, 78, 27, 79, 27, 55, 27, 56, 27, 61, 27, 62, 27, 99, 27, 35, 56, 27, 90], .sval false [.agg [.int .i64 8, .int .i64 0, .int .i64 0, .int .i64 0, .int .i64 0, .str []], .agg [.int .i64 9, .int .i64 0, .int .i64 0, .int .i64 0, .int .i64 0, .str []], .agg [.int .i64 10, .int .i64 0, .int .i64 0, .int .i64 0, .int .i64 0, .str []], .agg [.int .i64 11, .int .i64 0, .int .i64 0, .int .i64 0, .int .i64 0, .str []], .agg [.int .i64 18, .int .i64 2, .int .i64 0, .int .i64 0, .int .i64 0, .str []], .agg [.int .i64 18, .int .i64 3, .int .i64 0, .int .i64 0, .int .i64 0, .str []], .agg [.int .i64 12, .int .i64 0, .int .i64 0, .int .i64 0, .int .i64 0, .str []], .agg [.int .i64 13, .int .i64 0, .int .i64 0, .int .i64 0, .int .i64 0, .str []], .agg [.int .i64 14, .int .i64 1, .int .i64 0, .int .i64 0, .int .i64 0, .str []], .agg [.int .i64 14, .int .i64 0, .int .i64 0, .int .i64 0, .int .i64 0, .str []], .agg [.int .i64 15, .int .i64 0, .int .i64 0, .int .i64 0, .int .i64 0, .str []], .agg [.int .i64 16, .int .i64 0, .int .i64 0, .int .i64 0, .int .i64 0, .str []]]] S R :=
 fun S R h => isC w0 hB [27, 68, 27, 69, 27, 72, 27, 77, 27, 78, 27, 79, 27, 55, 27, 56, 27, 61, 27, 62, 27, 99, 27, 35, 56, 27, 90] [acN 8 0 0, acN 9 0 0, acN 10 0 0, acN 11 0 0, acN 18 2 0, acN 18 3 0, acN 12 0 0, acN 13 0 0, acN 14 1 0, acN 14 0 0, acN 15 0 0, acN 16 0 0] (by decide +kernel) (by decide +kernel) S R h
theorem ik2 (w0 : World) (hB : Base w0) : ∀ (S : List Blk) (R : Rt), R (.ret (.bool true)) S → ACall Tryz.prog w0 19 [.str [27, 40, 66, 27, 41, 66, 27, 42, 48, 27, 43, 48, 27, 45, 66], .sval false [.agg [.int .i64 17, .int .i64 0, .int .i64 0, .int .i64 0, .int .i64 0, .str []], .agg [.int .i64 17, .int .i64 1, .int .i64 0, .int .i64 0, .int .i64 0, .str []], .agg [.int .i64 17, .int .i64 2, .int .i64 1, .int .i64 0, .int .i64 0, .str []], .agg [.int .i64 17, .int .i64 3, .int .i64 1, .int .i64 0, .int .i64 0, .str []]]] S R :=
 fun S R h => isC w0 hB [27, 40, 66, 27, 41, 66, 27, 42, 48, 27, 43, 48, 27, 45, 66] [acN 17 0 0, acN 17 1 0, acN 17 2 1, acN 17 3 1] (by decide +kernel) (by decide +kernel) S R h
theorem ik3 (w0 : World) (hB : Base w0) : ∀ (S : List Blk) (R : Rt), R (.ret (.bool true)) S → ACall Tryz.prog w0 19 [.str [27, 91, 99, 27, 91, 48, 99, 27, 91, 49, 99, 27, 91, 62, 99, 27, 91, 54, 110, 27, 91, 53, 110, 27, 91, 55, 110, 27, 91, 50, 48, 36, 112, 27, 91, 33, 112, 27, 91, 115, 27, 91, 117], .sval false [.agg [.int .i64 42, .int .i64 0, .int .i64 0, .int .i64 0, .int .i64 0, .str []], .agg [.int .i64 42, .int .i64 0, .int .i64 0, .int .i64 0, .int .i64 0, .str []], .agg [.int .i64 42, .int .i64 1, .int .i64 0, .int .i64 0, .int .i64 0, .str []], .agg [.int .i64 41, .int .i64 6, .int .i64 0, .int .i64 0, .int .i64 0, .str []], .agg [.int .i64 41, .int .i64 5, .int .i64 0, .int .i64 0, .int .i64 0, .str []], .agg [.int .i64 43, .int .i64 20, .int .i64 0, .int .i64 0, .int .i64 0, .str []], .agg [.int .i64 15, .int .i64 0, .int .i64 0, .int .i64 0, .int .i64 0, .str []], .agg [.int .i64 12, .int .i64 0, .int .i64 0, .int .i64 0, .int .i64 0, .str []], .agg [.int .i64 13, .int .i64 0, .int .i64 0, .int .i64 0, .int .i64 0, .str []]]] S R :=
 fun S R h => isC w0 hB [27, 91, 99, 27, 91, 48, 99, 27, 91, 49, 99, 27, 91, 62, 99, 27, 91, 54, 110, 27, 91, 53, 110, 27, 91, 55, 110, 27, 91, 50, 48, 36, 112, 27, 91, 33, 112, 27, 91, 115, 27, 91, 117] [acN 42 0 0, acN 42 0 0, acN 42 1 0, acN 41 6 0, acN 41 5 0, acN 43 20 0, acN 15 0 0, acN 12 0 0, acN 13 0 0] (by decide +kernel) (by decide +kernel) S R h
theorem ik4 (w0 : World) (hB : Base w0) : ∀ (S : List Blk) (R : Rt), R (.ret (.bool true)) S → ACall Tryz.prog w0 19 [.str [27, 91, 74, 27, 91, 51, 74, 27, 91, 52, 74, 27, 91, 75, 27, 91, 49, 75, 27, 91, 103, 27, 91, 51, 103, 27, 91, 50, 103], .sval false [.agg [.int .i64 26, .int .i64 0, .int .i64 0, .int .i64 0, .int .i64 0, .str []], .agg [.int .i64 26, .int .i64 3, .int .i64 0, .int .i64 0, .int .i64 0, .str []], .agg [.int .i64 27, .int .i64 0, .int .i64 0, .int .i64 0, .int .i64 0, .str []], .agg [.int .i64 27, .int .i64 1, .int .i64 0, .int .i64 0, .int .i64 0, .str []], .agg [.int .i64 35, .int .i64 0, .int .i64 0, .int .i64 0, .int .i64 0, .str []], .agg [.int .i64 35, .int .i64 3, .int .i64 0, .int .i64 0, .int .i64 0, .str []]]] S R :=
 fun S R h => isC w0 hB [27, 91, 74, 27, 91, 51, 74, 27, 91, 52, 74, 27, 91, 75, 27, 91, 49, 75, 27, 91, 103, 27, 91, 51, 103, 27, 91, 50, 103] [acN 26 0 0, acN 26 3 0, acN 27 0 0, acN 27 1 0, acN 35 0 0, acN 35 3 0] (by decide +kernel) (by decide +kernel) S R h
theorem ik5 (w0 : World) (hB : Base w0) : ∀ (S : List Blk) (R : Rt), R (.ret (.bool true)) S → ACall Tryz.prog w0 19 [.str [27, 91, 55, 32, 113, 27, 91, 63, 74, 27, 91, 62, 49, 99, 27, 91, 63, 49, 110, 27, 80, 113, 27, 92, 27, 93, 57, 59, 120, 7, 27, 91, 37, 113, 27, 91, 104], .sval false [.agg [.int .i64 36, .int .i64 0, .int .i64 1, .int .i64 0, .int .i64 0, .str []]]] S R :=
 fun S R h => isC w0 hB [27, 91, 55, 32, 113, 27, 91, 63, 74, 27, 91, 62, 49, 99, 27, 91, 63, 49, 110, 27, 80, 113, 27, 92, 27, 93, 57, 59, 120, 7, 27, 91, 37, 113, 27, 91, 104] [acN 36 0 1] (by decide +kernel) (by decide +kernel) S R h
theorem ck0 (w0 : World) (hB : Base w0) : ∀ (S : List Blk) (R : Rt), R (.ret (.int .i64 0)) S → ACall Tryz.prog w0 11 [.agg [.int .i64 1, .int .i64 32, .int .i64 0, .int .i64 0, .int .i64 0, .str []]] S R :=
 chkC w0 hB (acN 1 32 0) 0 (by decide +kernel) ⟨by decide, by decide⟩ (by decide)
theorem ck1 (w0 : World) (hB : Base w0) : ∀ (S : List Blk) (R : Rt), R (.ret (.int .i64 200)) S → ACall Tryz.prog w0 11 [.agg [.int .i64 1, .int .i64 127, .int .i64 0, .int .i64 0, .int .i64 0, .str []]] S R :=
 chkC w0 hB (acN 1 127 0) 200 (by decide +kernel) ⟨by decide, by decide⟩ (by decide)
theorem ck2 (w0 : World) (hB : Base w0) : ∀ (S : List Blk) (R : Rt), R (.ret (.int .i64 200)) S → ACall Tryz.prog w0 11 [.agg [.int .i64 19, .int .i64 1, .int .i64 10000, .int .i64 0, .int .i64 0, .str []]] S R :=
 chkC w0 hB (acN 19 1 10000) 200 (by decide +kernel) ⟨by decide, by decide⟩ (by decide)
theorem ck3 (w0 : World) (hB : Base w0) : ∀ (S : List Blk) (R : Rt), R (.ret (.int .i64 200)) S → ACall Tryz.prog w0 11 [.agg [.int .i64 20, .int .i64 0, .int .i64 0, .int .i64 0, .int .i64 0, .str []]] S R :=
 chkC w0 hB (acN 20 0 0) 200 (by decide +kernel) ⟨by decide, by decide⟩ (by decide)
theorem ck4 (w0 : World) (hB : Base w0) : ∀ (S : List Blk) (R : Rt), R (.ret (.int .i64 0)) S → ACall Tryz.prog w0 11 [.agg [.int .i64 37, .int .i64 9999, .int .i64 1, .int .i64 0, .int .i64 0, .str []]] S R :=
 chkC w0 hB (acN 37 9999 1) 0 (by decide +kernel) ⟨by decide, by decide⟩ (by decide)
theorem ck5 (w0 : World) (hB : Base w0) : ∀ (S : List Blk) (R : Rt), R (.ret (.int .i64 0)) S → ACall Tryz.prog w0 11 [.agg [.int .i64 38, .int .i64 0, .int .i64 0, .int .i64 0, .int .i64 0, .str []]] S R :=
 chkC w0 hB (acN 38 0 0) 0 (by decide +kernel) ⟨by decide, by decide⟩ (by decide)
theorem ck6 (w0 : World) (hB : Base w0) : ∀ (S : List Blk) (R : Rt), R (.ret (.int .i64 200)) S → ACall Tryz.prog w0 11 [.agg [.int .i64 0, .int .i64 0, .int .i64 0, .int .i64 0, .int .i64 0, .str []]] S R :=
 chkC w0 hB (acN 0 0 0) 200 (by decide +kernel) ⟨by decide, by decide⟩ (by decide)
theorem ok0 (w0 : World) (hB : Base w0) : ∀ (S : List Blk) (R : Rt), R (.ret (.tup [.sval false [], .int .i64 201])) S → ACall Tryz.prog w0 17 [.agg [.int .i64 0, .int .i64 0, .int .u8 0, .int .u8 0, .sval false [], .str [], .str []]] S R :=
 ofC w0 hB ⟨0, 0, 0, 0, [], [], []⟩ [] 201 ⟨by decide, by simp⟩ (by decide) (fun _ hk _ => by cases hk) (by decide +kernel) (by decide +kernel)
theorem ok1 (w0 : World) (hB : Base w0) : ∀ (S : List Blk) (R : Rt), R (.ret (.tup [.sval false [], .int .i64 201])) S → ACall Tryz.prog w0 17 [.agg [.int .i64 7, .int .i64 0, .int .u8 0, .int .u8 0, .sval false [], .str [], .str []]] S R :=
 ofC w0 hB ⟨7, 0, 0, 0, [], [], []⟩ [] 201 ⟨by decide, by simp⟩ (by decide) (fun _ hk _ => by cases hk) (by decide +kernel) (by decide +kernel)
theorem ok2 (w0 : World) (hB : Base w0) : ∀ (S : List Blk) (R : Rt), R (.ret (.tup [.sval false [], .int .i64 201])) S → ACall Tryz.prog w0 17 [.agg [.int .i64 1, .int .i64 97, .int .u8 0, .int .u8 0, .sval false [.agg [.sval false []]], .str [], .str []]] S R :=
 ofC w0 hB ⟨1, 97, 0, 0, [[]], [], []⟩ [] 201 ⟨by decide, by simp⟩ (by decide) (fun _ hk _ => by cases hk) (by decide +kernel) (by decide +kernel)
theorem ok3 (w0 : World) (hB : Base w0) : ∀ (S : List Blk) (R : Rt), R (.ret (.tup [.sval false [.agg [.int .i64 1, .int .i64 769, .int .i64 0, .int .i64 0, .int .i64 0, .str []]], .int .i64 0])) S → ACall Tryz.prog w0 17 [.agg [.int .i64 1, .int .i64 769, .int .u8 0, .int .u8 120, .sval false [], .str [], .str [121]]] S R :=
 ofC w0 hB ⟨1, 769, 0, 120, [], [], [121]⟩ [acN 1 769 0] 0 ⟨by decide, by simp⟩ (by decide) (fun _ hk _ => by cases hk) (by decide +kernel) (by decide +kernel)
set_option maxHeartbeats 16000000 in
theorem lKnown (w0 : World) (hB : Base w0) (S : List Blk) (R : Rt) (h : R (.ret (.bool true)) S) : ACall Tryz.prog w0 8 [] S R := by
 have hac := lAc w0
 have hwk := lWorks w0 hB
 have h9 := fun S' => rSameEq w0 S' [acN 1 769 0] (by decide)
 simp only [List.map_cons, List.map_nil, acN_av, actV] at h9
 have k0 := ik0 w0 hB
 have k1 := ik1 w0 hB
 have k2 := ik2 w0 hB
 have k3 := ik3 w0 hB
 have k4 := ik4 w0 hB
 have k5 := ik5 w0 hB
 have c0 := ck0 w0 hB
 have c1 := ck1 w0 hB
 have c2 := ck2 w0 hB
 have c3 := ck3 w0 hB
 have c4 := ck4 w0 hB
 have c5 := ck5 w0 hB
 have c6 := ck6 w0 hB
 have o0 := ok0 w0 hB
 have o1 := ok1 w0 hB
 have o2 := ok2 w0 hB
 have o3 := ok3 w0 hB
 have e0 : (((0 : Nat) : Int) == 0) = true := rfl
 have H := Lib.hid h
 clear h hB
 refine en Tryz.func8 rfl Tryz.ntmps8 fun hO => ?_
 repeat' ((fail_if_success (apply x_stop 26 rfl)); first | refine st ?_ | (refine ca ?_; first | apply hac) | (refine br ?_ ?_; all_goals (intro hb; try simp only [bnn] at hb)) | fail)
 refine x_mark (S.length) (by (simp only [go_sem, *]; try rfl)) ?_
 repeat' ((fail_if_success (apply x_stop 40 rfl)); first | refine st ?_ | (refine ca ?_; first | apply hac | apply k0) | (refine br ?_ ?_; all_goals (intro hb; try simp only [bnn] at hb)) | fail)
 refine x_mark (S.length + 1) (by (simp only [go_sem, *]; try rfl)) ?_
 repeat' ((fail_if_success (apply x_stop 46 rfl)); first | refine st ?_ | (refine ca ?_; first | apply hac | apply k0 | apply k1) | (refine br ?_ ?_; all_goals (intro hb; try simp only [bnn] at hb)) | fail)
 refine x_mark (S.length + 2) (by (simp only [go_sem, *]; try rfl)) ?_
 repeat' ((fail_if_success (apply x_stop 57 rfl)); first | refine st ?_ | (refine ca ?_; first | apply hac | apply k0 | apply k1 | apply k2) | (refine br ?_ ?_; all_goals (intro hb; try simp only [bnn] at hb)) | fail)
 refine x_mark (S.length + 3) (by (simp only [go_sem, *]; try rfl)) ?_
 repeat' ((fail_if_success (apply x_stop 65 rfl)); first | refine st ?_ | (refine ca ?_; first | apply hac | apply k0 | apply k1 | apply k2 | apply k3) | (refine br ?_ ?_; all_goals (intro hb; try simp only [bnn] at hb)) | fail)
 refine x_mark (S.length + 4) (by (simp only [go_sem, *]; try rfl)) ?_
 repeat' ((fail_if_success (apply x_stop 68 rfl)); first | refine st ?_ | (refine ca ?_; first | apply hac | apply k0 | apply k1 | apply k2 | apply k3 | apply k4) | (refine br ?_ ?_; all_goals (intro hb; try simp only [bnn] at hb)) | fail)
 refine x_mark (S.length + 5) (by (simp only [go_sem, *]; try rfl)) ?_
 repeat' ((fail_if_success (apply x_stop 83 rfl)); first | refine st ?_ | (refine ca ?_; first | apply hac | apply hwk | apply k0 | apply k1 | apply k2 | apply k3 | apply k4 | apply k5 | apply o0 | apply o1 | apply o2 | apply o3 | apply c0 | apply c1 | apply c2 | apply c3 | apply c4 | apply c5 | apply c6) | (refine br ?_ ?_; all_goals (intro hb; try simp only [bnn] at hb)) | fail)
 refine x_mark (S.length + 6) (by (simp only [go_sem, *]; try rfl)) ?_
 repeat' ((fail_if_success (apply x_stop 165 rfl)); first | refine st ?_ | (refine ca ?_; first | apply hac | apply hwk | apply k0 | apply k1 | apply k2 | apply k3 | apply k4 | apply k5 | apply o0 | apply o1 | apply o2 | apply o3 | apply c0 | apply c1 | apply c2 | apply c3 | apply c4 | apply c5 | apply c6) | (refine br ?_ ?_; all_goals (intro hb; try simp only [bnn] at hb)) | fail)
 refine x_mark (S.length + 7) (by (simp only [go_sem, *]; try rfl)) ?_
 repeat' first | refine st ?_ | (refine ca ?_; first | apply h9) | (refine br ?_ ?_; all_goals (intro hb; try simp only [bnn] at hb)) | fail
 (apply f_ret; iterate 7 (· simp only [go_sem, *, Tryz.results8]; try rfl))
 exact H.out
open Go.ChangeShapes Go.WideShapes Go.ChangeAt Go.RowKit
theorem own : ownKnob Tryz.prog.godebug = none := by kernel_rfl
theorem laid_mem {P : Program} {W : World} {nm : String} {d : DataW Unit} : ∀ {l : List (String × DataW Unit)} {ps : List MemPlace}, DataW.LaidVars P W l ps → (nm, d) ∈ l →
  ∃ g t cs fuel p, P.globalNamed nm = some g ∧ (P.globals[g]?).map (·.type) = some t ∧ W.var? P nm = some cs ∧ DataW.trod (fun _ => ()) P W 0 (fun _ => true) false fuel t cs.toList = some (d, p) := by
 intro l
 induction l with
 | nil => intro ps _ h; cases h
 | cons x l ih =>
  intro ps h hm
  obtain ⟨nm', d'⟩ := x
  obtain ⟨g, t, cs, fuel, p, q, h1, h2, h3, h4, h5, _⟩ := h
  rcases List.mem_cons.1 hm with e | hm
  ·cases e; exact ⟨g, t, cs, fuel, p, h1, h2, h3, h4⟩
  ·exact ih h5 hm
def seatLaid : List (String × DataW Unit) := [("math/bits.deBruijn32tab", Rows.laid_math_bits_deBruijn32tab), ("math/bits.deBruijn64tab", Rows.laid_math_bits_deBruijn64tab), ("internal/strconv.uint64pow10", Rows.laid_internal_strconv_uint64pow10), ("unicode/utf8.acceptRanges", Rows.laid_unicode_utf8_acceptRanges), ("strconv.ErrRange", Rows.laid_strconv_ErrRange), ("strconv.ErrSyntax", Rows.laid_strconv_ErrSyntax), ("fenestra/color.named", Rows.laid_fenestra_color_named), ("fenestra/sgr.attrs", Rows.laid_fenestra_sgr_attrs), ("fenestra/width.marks", Rows.laid_fenestra_width_marks), ("fenestra/width.wides", Rows.laid_fenestra_width_wides), ("unicode/utf8.first", Rows.laid_unicode_utf8_first)]
theorem gPow : Tryz.prog.globalNamed "internal/strconv.uint64pow10" = some 4 := by kernel_rfl
theorem gSyn : Tryz.prog.globalNamed "strconv.ErrSyntax" = some 6 := by kernel_rfl
theorem tab_of {W : World} (h : laidMetH Tryz.prog seatLaid W) : Tab W := by
 rw [MakeChecks.laidMetH_plain _ _ _ (by kernel_rfl)] at h
 obtain ⟨ps, hl, _⟩ := h
 obtain ⟨g, t, cs, fuel, p, h1, h2, h3, h4⟩ := laid_mem (nm := "internal/strconv.uint64pow10") (d := Rows.laid_internal_strconv_uint64pow10) hl (by simp [seatLaid])
 obtain rfl := Option.some.inj (gPow.symm.trans h1)
 obtain rfl := Option.some.inj ((show (Tryz.prog.globals[4]?).map (·.type) = some 314 by kernel_rfl).symm.trans h2)
 have h5 := Lib.cells_of_tab (k := .u64) (zs := Lib.pow10Tab) (un_314) (un_255) (by kernel_rfl) (by kernel_rfl) h4
 unfold Tab Lib.TabIs
 rw [h3, ← h5]
theorem syn_of {W : World} (h : laidMetH Tryz.prog seatLaid W) : Syn W := by
 rw [MakeChecks.laidMetH_plain _ _ _ (by kernel_rfl)] at h
 obtain ⟨ps, hl, _⟩ := h
 obtain ⟨g, t, cs, fuel, p, h1, h2, h3, h4⟩ := laid_mem (nm := "strconv.ErrSyntax") (d := Rows.laid_strconv_ErrSyntax) hl (by simp [seatLaid])
 obtain rfl := Option.some.inj (gSyn.symm.trans h1)
 obtain rfl := Option.some.inj ((show (Tryz.prog.globals[6]?).map (·.type) = some 95 by kernel_rfl).symm.trans h2)
 cases fuel with
 | zero => simp [DataW.trod] at h4
 | succ fuel =>
 simp only [DataW.trod, un_95] at h4
 have hc := World.var?_cell gSyn h3 0
 match hcs : cs.toList, h4 with
 | [.nilIface], _ => exact ⟨.nilIface, by rw [hc, ← Array.getElem?_toList, hcs]; rfl, .inl rfl⟩
 | [.iface u v], _ => exact ⟨.iface u v, by rw [hc, ← Array.getElem?_toList, hcs]; rfl, .inr ⟨u, v, rfl⟩⟩
theorem gRng : Tryz.prog.globalNamed "strconv.ErrRange" = some 7 := by kernel_rfl
theorem rng_of {W : World} (h : laidMetH Tryz.prog seatLaid W) : Rng W := by
 rw [MakeChecks.laidMetH_plain _ _ _ (by kernel_rfl)] at h
 obtain ⟨ps, hl, _⟩ := h
 obtain ⟨g, t, cs, fuel, p, h1, h2, h3, h4⟩ := laid_mem (nm := "strconv.ErrRange") (d := Rows.laid_strconv_ErrRange) hl (by simp [seatLaid])
 obtain rfl := Option.some.inj (gRng.symm.trans h1)
 obtain rfl := Option.some.inj ((show (Tryz.prog.globals[7]?).map (·.type) = some 95 by kernel_rfl).symm.trans h2)
 cases fuel with
 | zero => simp [DataW.trod] at h4
 | succ fuel =>
 simp only [DataW.trod, un_95] at h4
 have hc := World.var?_cell gRng h3 0
 match hcs : cs.toList, h4 with
 | [.nilIface], _ => exact ⟨.nilIface, by rw [hc, ← Array.getElem?_toList, hcs]; rfl, .inl rfl⟩
 | [.iface u v], _ => exact ⟨.iface u v, by rw [hc, ← Array.getElem?_toList, hcs]; rfl, .inr ⟨u, v, rfl⟩⟩
theorem gl_tab {W : World} {nm : String} {g : Nat} {cs : Array Value} {k : IntKind} {zs : List Int} (hg : Tryz.prog.globalNamed nm = some g) (h : W.var? Tryz.prog nm = some cs) (hc : cs.toList = zs.map fun z => Value.int k z) : gl W g = .pro (zs.map fun z => AV.int k z) := by
 unfold World.var? at h
 rw [hg] at h
 simp only [Option.bind_some] at h
 unfold gl
 split at h
 ·next c T fz hh =>
  cases h
  rw [hh]
  simp only [hc]
  have hall : (zs.map fun z => Value.int k z).all Value.oneCell' = true := by
   rw [List.all_eq_true]
   intro x hx
   obtain ⟨z, _, rfl⟩ := List.mem_map.1 hx
   rfl
  rw [hall, if_pos rfl, List.map_map]
  rfl
 ·cases h
theorem gDeb : Tryz.prog.globalNamed "math/bits.deBruijn64tab" = some 11 := by kernel_rfl
theorem gNam : Tryz.prog.globalNamed "fenestra/color.named" = some 2 := by kernel_rfl
theorem deb_of {W : World} (h : laidMetH Tryz.prog seatLaid W) : DeB W := by
 rw [MakeChecks.laidMetH_plain _ _ _ (by kernel_rfl)] at h
 obtain ⟨ps, hl, _⟩ := h
 obtain ⟨g, t, cs, fuel, p, h1, h2, h3, h4⟩ := laid_mem (nm := "math/bits.deBruijn64tab") (d := Rows.laid_math_bits_deBruijn64tab) hl (by simp [seatLaid])
 obtain rfl := Option.some.inj (gDeb.symm.trans h1)
 obtain rfl := Option.some.inj ((show (Tryz.prog.globals[11]?).map (·.type) = some 340 by kernel_rfl).symm.trans h2)
 have h5 := Lib.cells_of_tab (k := .u8) (zs := [0, 1, 56, 2, 57, 49, 28, 3, 61, 58, 42, 50, 38, 29, 17, 4, 62, 47, 59, 36, 45, 43, 51, 22, 53, 39, 33, 30, 24, 18, 12, 5, 63, 55, 48, 27, 60, 41, 37, 16, 46, 35, 44, 21, 52, 32, 23, 11, 54, 26, 40, 15, 34, 20, 31, 10, 25, 14, 19, 9, 13, 8, 7, 6]) (un_340) (un_5) (by kernel_rfl) (by kernel_rfl) h4
 exact gl_tab gDeb h3 h5
theorem nam_of {W : World} (h : laidMetH Tryz.prog seatLaid W) : Nam W := by
 rw [MakeChecks.laidMetH_plain _ _ _ (by kernel_rfl)] at h
 obtain ⟨ps, hl, _⟩ := h
 obtain ⟨g, t, cs, fuel, p, h1, h2, h3, h4⟩ := laid_mem (nm := "fenestra/color.named") (d := Rows.laid_fenestra_color_named) hl (by simp [seatLaid])
 obtain rfl := Option.some.inj (gNam.symm.trans h1)
 obtain rfl := Option.some.inj ((show (Tryz.prog.globals[2]?).map (·.type) = some 285 by kernel_rfl).symm.trans h2)
 have h5 := Lib.cells_of_tab (k := .i64) (zs := [0, 13434880, 52480, 13487360, 238, 13435085, 52685, 15066597, 8355711, 16711680, 65280, 16776960, 6053119, 16711935, 65535, 16777215]) (un_285) (un_3) (by kernel_rfl) (by kernel_rfl) h4
 exact gl_tab gNam h3 h5
theorem parse_of {W : World} (h : laidMetH Tryz.prog seatLaid W) : ParseOk W := parseOk W (syn_of h) (rng_of h)
theorem print_of {W : World} (h : laidMetH Tryz.prog seatLaid W) : PrintOk W := printOk W (tab_of h) (deb_of h) (nam_of h)
def pairData {H : Type} (l : List (Int × Int)) : DataW H := .agg (l.map fun p => .agg [.lit (.int .i64 p.1), .lit (.int .i64 p.2)])
theorem pairs_len (l : List (Int × Int)) : (l.flatMap fun q => [Value.int .i64 q.1, Value.int .i64 q.2]).length = l.length * 2 := by
 induction l with
 | nil => rfl
 | cons a l ih => simp only [List.flatMap_cons, List.length_append, ih, List.length_cons, List.length_nil]; omega
theorem pairs_flat (l : List (Int × Int)) : (l.flatMap fun q => [Value.int .i64 q.1, Value.int .i64 q.2]).map leafV = flat (l.map SpV) := by
 induction l with
 | nil => rfl
 | cons a l ih => simp only [List.flatMap_cons, List.map_append, ih, List.map_cons, flat_cons]; rfl
theorem cells_of_pairs {H : Type} {enc : TypeId × Value → H} {P : Program} {w : World} {base : Nat} {sp : Nat → Bool} {held : Bool} {fuel : Nat} {t e i : TypeId} {f0 f1 : Field} {n : Nat} {cs : List Value} {l : List (Int × Int)} {p : List MemPlace}
  (ht : P.underlying t = some (.array n e)) (he : P.underlying e = some (.struct #[f0, f1])) (h0 : f0.type = i ∧ f0.offset = 0) (h1 : f1.type = i ∧ f1.offset = 1) (hi : P.underlying i = some (.int .i64)) (hci : P.cellsOf i = 1) (hce : P.cellsOf e = 2) (hct : P.cellsOf t = n * 2)
  (h : DataW.trod enc P w base sp held fuel t cs = some (pairData l, p)) : cs = l.flatMap fun q => [Value.int .i64 q.1, Value.int .i64 q.2] := by
 cases fuel with
 | zero => simp [DataW.trod] at h
 | succ fuel =>
  simp only [DataW.trod, ht, hce, hct] at h
  split at h
  ·rename_i hl
   obtain ⟨xs, hm, hx⟩ := Option.map_eq_some_iff.1 h
   have hxs : xs.map (·.1) = l.map fun q => (DataW.agg [.lit (.int .i64 q.1), .lit (.int .i64 q.2)] : DataW H) := by
    have := congrArg Prod.fst hx
    simpa [pairData] using this
   have hxl : xs.length = n := by simpa using Lib.mapM_length hm
   have hzl : l.length = n := by
    have := congrArg List.length hxs
    simp at this
    omega
   have hfl := pairs_len l
   have hat : ∀ k, k < n → ∃ q, l[k]? = some q ∧ cs[k * 2]? = some (.int .i64 q.1) ∧ cs[k * 2 + 1]? = some (.int .i64 q.2) := by
    intro k hk
    obtain ⟨b, hb, hf⟩ := Lib.mapM_at hm k k (by simp [hk])
    obtain ⟨y0, y1, m, rfl, _, hy0, hy1⟩ := trod_struct2 he hf
    rw [h0.1, h0.2, hci] at hy0
    rw [h1.1, h1.2, hci] at hy1
    obtain ⟨z0, c0, rfl, _⟩ := DataW.trod_int hi hy0
    obtain ⟨z1, c1, rfl, _⟩ := DataW.trod_int hi hy1
    have g0 : cs[k * 2]? = some (.int .i64 z0) := by
     have := congrArg (·[0]?) c0
     simpa [List.getElem?_take, List.getElem?_drop] using this
    have g1 : cs[k * 2 + 1]? = some (.int .i64 z1) := by
     have := congrArg (·[0]?) c1
     simpa [List.getElem?_take, List.getElem?_drop] using this
    have h2 := congrArg (·[k]?) hxs
    simp only [List.getElem?_map, hb, Option.map_some] at h2
    cases hq : l[k]? with
    | none => rw [hq] at h2; cases h2
    | some q =>
     rw [hq] at h2
     simp only [Option.map_some, Option.some.injEq, DataW.agg.injEq, List.cons.injEq, DataW.lit.injEq, Lit.int.injEq, true_and, and_true] at h2
     exact ⟨q, rfl, by rw [g0, h2.1], by rw [g1, h2.2]⟩
   have hfat : ∀ (l : List (Int × Int)) (k : Nat) (q : Int × Int), l[k]? = some q → (l.flatMap fun q => [Value.int .i64 q.1, Value.int .i64 q.2])[k * 2]? = some (.int .i64 q.1) ∧ (l.flatMap fun q => [Value.int .i64 q.1, Value.int .i64 q.2])[k * 2 + 1]? = some (.int .i64 q.2) := by
    intro l
    induction l with
    | nil => intro k q hq; cases hq
    | cons a l ih =>
     intro k q hq
     cases k with
     | zero => cases hq; exact ⟨rfl, rfl⟩
     | succ k =>
      have := ih k q (by simpa using hq)
      rw [show (k + 1) * 2 = k * 2 + 2 by omega]
      simpa [List.flatMap_cons] using this
   apply List.ext_getElem?
   intro j
   by_cases hj : j < n * 2
   ·obtain ⟨q, hq, a, b⟩ := hat (j / 2) (by omega)
    obtain ⟨a', b'⟩ := hfat l (j / 2) q hq
    rcases (by omega : j = j / 2 * 2 ∨ j = j / 2 * 2 + 1) with e | e
    ·rw [e, a, a']
    ·rw [e, b, b']
   ·rw [List.getElem?_eq_none (by omega), List.getElem?_eq_none (by omega)]
  ·cases h
theorem gl_pairs {W : World} {nm : String} {g : Nat} {cs : Array Value} {l : List (Int × Int)} (hg : Tryz.prog.globalNamed nm = some g) (h : W.var? Tryz.prog nm = some cs) (hc : cs.toList = l.flatMap fun q => [Value.int .i64 q.1, Value.int .i64 q.2]) : gl W g = .pro (flat (l.map SpV)) := by
 unfold World.var? at h
 rw [hg] at h
 simp only [Option.bind_some] at h
 unfold gl
 split at h
 ·next c T fz hh =>
  cases h
  rw [hh]
  simp only [hc]
  have hall : (l.flatMap fun q => [Value.int .i64 q.1, Value.int .i64 q.2]).all Value.oneCell' = true := by
   rw [List.all_eq_true]
   intro x hx
   obtain ⟨q, _, hx⟩ := List.mem_flatMap.1 hx
   rcases List.mem_cons.1 hx with rfl | hx
   ·rfl
   ·rcases List.mem_cons.1 hx with rfl | hx
    ·rfl
    ·cases hx
  rw [hall, if_pos rfl]
  rw [pairs_flat]
 ·cases h
theorem gMar : Tryz.prog.globalNamed "fenestra/width.marks" = some 0 := by kernel_rfl
theorem gWid : Tryz.prog.globalNamed "fenestra/width.wides" = some 1 := by kernel_rfl
theorem mar_of {W : World} (h : laidMetH Tryz.prog seatLaid W) : MarksOk W := by
 rw [MakeChecks.laidMetH_plain _ _ _ (by kernel_rfl)] at h
 obtain ⟨ps, hl, _⟩ := h
 obtain ⟨g, t, cs, fuel, p, h1, h2, h3, h4⟩ := laid_mem (nm := "fenestra/width.marks") (d := Rows.laid_fenestra_width_marks) hl (by simp [seatLaid])
 obtain rfl := Option.some.inj (gMar.symm.trans h1)
 obtain rfl := Option.some.inj ((show (Tryz.prog.globals[0]?).map (·.type) = some 103 by kernel_rfl).symm.trans h2)
 have h5 := cells_of_pairs (l := marksT) (un_103) (un_102) ⟨rfl, rfl⟩ ⟨rfl, rfl⟩ (un_3) (by kernel_rfl) (by kernel_rfl) (by kernel_rfl) h4
 exact gl_pairs gMar h3 h5
theorem wid_of {W : World} (h : laidMetH Tryz.prog seatLaid W) : WidesOk W := by
 rw [MakeChecks.laidMetH_plain _ _ _ (by kernel_rfl)] at h
 obtain ⟨ps, hl, _⟩ := h
 obtain ⟨g, t, cs, fuel, p, h1, h2, h3, h4⟩ := laid_mem (nm := "fenestra/width.wides") (d := Rows.laid_fenestra_width_wides) hl (by simp [seatLaid])
 obtain rfl := Option.some.inj (gWid.symm.trans h1)
 obtain rfl := Option.some.inj ((show (Tryz.prog.globals[1]?).map (·.type) = some 105 by kernel_rfl).symm.trans h2)
 have h5 := cells_of_pairs (l := widesT) (un_105) (un_102) ⟨rfl, rfl⟩ ⟨rfl, rfl⟩ (un_3) (by kernel_rfl) (by kernel_rfl) (by kernel_rfl) h4
 exact gl_pairs gWid h3 h5
theorem base_of {W : World} (h : laidMetH Tryz.prog seatLaid W) : Base W := ⟨mar_of h, wid_of h, print_of h, parse_of h⟩
theorem laidOut : laidOutB Tryz.prog = true := by kernel_rfl
end Go.Proofs.YthdbijpefkapnaaGreatDoor
namespace Go.Proofs.YthdbijpefkapnaaGreatDoor
open Go Go.Fen
set_option linter.unusedSimpArgs false
set_option linter.unusedVariables false
attribute [local irreducible] RunX WP ACall AnyP OpA ProtL afterCall afterOp
set_option maxRecDepth 8000
namespace ActionKnown
theorem contract (H : Type) (enc : TypeId × Value → H) (W : World) (base : Nat) (args : Array Value) (ds gs : List (DataW H)) (before : List MemPlace)
  (hval : ∀ (j : Nat) t v, Tryz.f8.params[j]? = some t → args[j]? = some v → Value.okWide Tryz.prog W .any base t v)
  (hW : DataW.Whole enc Tryz.prog Tryz.f8.params.toList Rows.actionKnownSpec.vars false W args.toList ds gs before) (hL : laidMetH Tryz.prog seatLaid W) :
  Calls Tryz.prog 8 args W fun e W' => ∃ v, e = .returned v ∧ Rows.actionKnownSpec.post enc Tryz.prog Tryz.f8 false true false false W args v W' := by
 refine law_close (n := 20) (tb := 4) [] laidOut ?_ (by rw [Tryz.params8]; kernel_rfl) (by kernel_rfl) un_4 rfl ?_ hW hval ?_
 ·rw [Tryz.params8]
  have : ([].all fun t => Tryz.prog.readableRec t && decide (t < Tryz.prog.types.size)) = true := by kernel_rfl
  intro t ht
  simpa using List.all_eq_true.1 this t (by simpa using ht)
 ·intro h
  rw [Tryz.params8] at h
  match ds, h with
  | [], _ => rfl
 ·intro avs ha
  have e1 := ArgsH.nil' ha
  rw [e1]
  exact lKnown W (base_of hL) [] _ rfl
def wit : Array Value := #[]
set_option maxRecDepth 100000 in
theorem lifted (os : Os) (started : os.Started) (H : Type) (enc : TypeId × Value → H) :
  ReturnsInHanded {} Tryz.checked os 8 .any (fun w args => (Rows.actionKnownSpec.pre enc Tryz.prog Tryz.f8 Rows.actionKnownRow.domain false w args ∧ laidMetH Tryz.prog seatLaid w) ∧ sizedMet enc Tryz.prog Tryz.f8 (OpenSpec.ofChange Rows.actionKnownSpec) false w args)
   (Rows.actionKnownSpec.post enc Tryz.prog Tryz.f8 false true false false) := by
 refine returnsInHanded_of_change_and (C := Tryz.checked) (X := fun w _ => laidMetH Tryz.prog seatLaid w) (fun _ _ _ hh h => h.of_heap hh) own started (by kernel_rfl) Tryz.func8
  (ChangeSpec.witness_shaped (enc := enc) (C := Tryz.checked) (os := os) (X := fun w _ => laidMetH Tryz.prog seatLaid w) false (World.laidAll Tryz.prog os seatLaid) wit 8 (World.laidAll_os _ _ _)
   (World.shaped_of_ZipB (by kernel_rfl) (by kernel_rfl)) (by kernel_rfl) (by kernel_rfl) (by kernel_rfl)
   (by rw [MakeChecks.laidMetH_plain _ _ _ (by kernel_rfl)]; exact laidMet_laidAll _ (by kernel_rfl) (by kernel_rfl))) ?_
 intro W base args ds gs before hval hW _ _ hL _
 exact contract H enc W base args ds gs before hval hW hL
theorem said : Rows.ActionKnownSaid :=
 OpenClaim.holds_of_wide 8 Tryz.f8 rfl rfl rfl rfl rfl rfl rfl ⟨rfl, rfl, rfl, rfl, rfl⟩ rfl rfl rfl rfl rfl (by kernel_rfl) Tryz.func8 (by kernel_rfl)
  (of_decide_eq_true (by kernel_rfl)) (by unfold Func.isWrapper; first | (rw [if_pos (by decide +kernel)]; kernel_rfl) | (rw [if_neg (by decide +kernel)]; exact ⟨rfl, rfl⟩))
  (fun os started H enc _ => lifted os started H enc)
theorem plainF (f : FuncId) (fn : Func) (hf : Tryz.pinned.checked.prog.funcNamed "fenestra/fenestralaw10.ActionKnown" = some f) (hfn : Tryz.pinned.checked.prog.funcs[f]? = some fn) :
  true = Tryz.pinned.checked.prog.looks [] ∧ ∀ (j : Nat) t, fn.params[j]? = some t → Tryz.pinned.checked.prog.wantsStandIn t = false := by
 obtain rfl : f = 8 := Option.some.inj ((show Tryz.prog.funcNamed "fenestra/fenestralaw10.ActionKnown" = some 8 by kernel_rfl).symm.trans hf) |>.symm
 obtain rfl : fn = Tryz.f8 := (Option.some.inj (Tryz.func8.symm.trans hfn)).symm
 refine ⟨by kernel_rfl, fun j t ht => ?_⟩
 rw [Tryz.params8] at ht
 have hm : t ∈ [] := by simpa using Array.mem_of_getElem? ht
 have hall : ([].all fun u => !Tryz.prog.wantsStandIn u) = true := by kernel_rfl
 exact (show Tryz.prog.wantsStandIn t = false by simpa using List.all_eq_true.1 hall t hm)
theorem card : Rows.ActionKnownCardSaid :=
 Claim7.holds_tied_plain_at .later [] _ _ _ _ said (fun _ h => by cases h) (by kernel_rfl) (fun _ h => by cases h) actionKnown_row_tie rfl ⟨rfl, rfl⟩ (by kernel_rfl) rfl plainF (by kernel_rfl)
end ActionKnown
end Go.Proofs.YthdbijpefkapnaaGreatDoor
