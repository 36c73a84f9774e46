/- YtfnnjkbhmoomjaaGreatDoorWalk3. Texts of the proof of a law about texts: a layer of abstract values above the worlds, the types, the walks of the functions that the law reaches, the law and its card. Own work of an AI agent. -/
import Derived.Test.YtfnnjkbhmoomjaaGreatDoorWalk1
import Derived.Test.YtfnnjkbhmoomjaaGreatDoorWalk2
import Derived.Test.YtfnnjkbhmoomjaaGreatDoorCore1
set_option linter.all false
set_option linter.unusedVariables false
set_option linter.unusedSimpArgs false
namespace Go.Proofs.YtfnnjkbhmoomjaaGreatDoor
open Go Go.Fen
set_option linter.unusedSimpArgs false
set_option linter.unusedVariables false
attribute [local irreducible] RunX WP ACall AnyP OpA ProtL afterCall afterOp
set_option maxRecDepth 8000
theorem lSays (w0 : World) (hP : ParseOk w0) (S : List Blk) (s : List UInt8) (a : Ac) (hs : s.length ≤ 8192) (he : parseO s = some a) (R : AOut → List Blk → Prop) (h : R (.ret (.bool true)) S) : ACall Tryz.prog w0 15 [.str s, a.av] S R := by
  have hp := fun S' => hP S' s hs
  rw [he] at hp
  unfold parV at hp
  obtain ⟨k, n, m, ck, cn, t⟩ := a
  unfold Ac.av at hp ⊢
  simp only at hp ⊢
  clear he hs hP
  refine enter Tryz.func15 rfl (by decide +kernel) (by rw [Tryz.ntmps15]; simp) (by rw [Tryz.ntmps15]; decide) (fun hO => ?_); rw [Tryz.ntmps15]
  repeat' first | refine st ?_ | (refine ca ?_; first | apply hp) | (refine br ?_ ?_; all_goals (intro hb; try simp only [Bool.not_eq_true', Bool.not_eq_false'] at hb)) | fail
  (apply f_ret; iterate 7 (· simp only [go_sem, *, Tryz.results15]; try rfl))
  exact h
theorem lNone (w0 : World) (hP : ParseOk w0) (S : List Blk) (s : List UInt8) (hs : s.length ≤ 8192) (he : parseO s = none) (R : AOut → List Blk → Prop) (h : R (.ret (.bool true)) S) : ACall Tryz.prog w0 18 [.str s] S R := by
  have hp := fun S' => hP S' s hs
  rw [he] at hp
  unfold parV zeroA Ac.av at hp
  simp only at hp
  clear he hs hP
  refine enter Tryz.func18 rfl (by decide +kernel) (by rw [Tryz.ntmps18]; simp) (by rw [Tryz.ntmps18]; decide) (fun hO => ?_); rw [Tryz.ntmps18]
  repeat' first | refine st ?_ | (refine ca ?_; first | apply hp) | (refine br ?_ ?_; all_goals (intro hb; try simp only [Bool.not_eq_true', Bool.not_eq_false'] at hb)) | fail
  (apply f_ret; iterate 7 (· simp only [go_sem, *, Tryz.results18]; try rfl))
  exact h
theorem lTold (w0 : World) (hP : ParseOk w0) (hQ : PrintOk w0) (S : List Blk) (a : Ac) (s : List UInt8) (ha : a.text.length ≤ 10000) (he : printO a = some s) (R : AOut → List Blk → Prop) (h : R (.ret (.bool true)) S) : ACall Tryz.prog w0 21 [a.av, .str s] S R := by
  have hq := fun S' => hQ S' a ha
  obtain ⟨h1, h2, h3, _⟩ := parse_print he
  have hy := fun S' => lSays w0 hP S' s a (by omega) h1
  rw [he] at hq
  unfold printV at hq
  obtain ⟨k, n, m, ck, cn, t⟩ := a
  unfold Ac.av at hq hy ⊢
  simp only at hq hy ⊢
  clear he ha hP hQ h1 h2 h3
  refine enter Tryz.func21 rfl (by decide +kernel) (by rw [Tryz.ntmps21]; simp) (by rw [Tryz.ntmps21]; decide) (fun hO => ?_); rw [Tryz.ntmps21]
  repeat' first | refine st ?_ | (refine ca ?_; first | apply hq | apply hy) | (refine br ?_ ?_; all_goals (intro hb; try simp only [Bool.not_eq_true', Bool.not_eq_false'] at hb)) | fail
  (apply f_ret; iterate 7 (· simp only [go_sem, *, Tryz.results21]; try rfl))
  exact h
end Go.Proofs.YtfnnjkbhmoomjaaGreatDoor
namespace Go.Proofs.YtfnnjkbhmoomjaaGreatDoor
open Go Go.Fen
set_option linter.unusedSimpArgs false
set_option linter.unusedVariables false
attribute [local irreducible] RunX WP ACall AnyP OpA ProtL afterCall afterOp
set_option maxRecDepth 8000
def WorksOk (w0 : World) : Prop := ∀ (S : List Blk) (R : AOut → List Blk → Prop), R (.ret (.bool true)) S → ACall Tryz.prog w0 12 [] S R
theorem draftA_text (w n rgb : Nat) (codes : List Int) (clip : List UInt8) : (draftA w n rgb codes clip).text.length ≤ 10000 := by
  unfold draftA
  split
  · have := (title_ok codes).2.1; simp only; omega
  · split
    · simp
    · simp; omega
end Go.Proofs.YtfnnjkbhmoomjaaGreatDoor
namespace Go.Proofs.YtfnnjkbhmoomjaaGreatDoor
open Go Go.Fen
set_option linter.unusedSimpArgs false
set_option linter.unusedVariables false
attribute [local irreducible] RunX WP ACall AnyP OpA ProtL afterCall afterOp
set_option maxRecDepth 8000
def SayOk (s : List UInt8) (a : Ac) : Prop := s.length ≤ 8192 ∧ parseO s = some a
def NoneOk (s : List UInt8) : Prop := s.length ≤ 8192 ∧ parseO s = none
def ToldOk (a : Ac) (s : List UInt8) : Prop := a.text.length ≤ 10000 ∧ printO a = some s
def NoPr (a : Ac) : Prop := a.text.length ≤ 10000 ∧ printO a = none
theorem sSays (w0 : World) (hP : ParseOk w0) (S : List Blk) (s : List UInt8) (k n m ck cn : Int) (t : List UInt8) (R : AOut → List Blk → Prop) (hs : SayOk s ⟨k, n, m, ck, cn, t⟩) (h : R (.ret (.bool true)) S) : ACall Tryz.prog w0 15 [.str s, .agg [.int .i64 k, .int .i64 n, .int .i64 m, .int .i64 ck, .int .i64 cn, .str t]] S R := lSays w0 hP S s _ hs.1 hs.2 R h
theorem sNone (w0 : World) (hP : ParseOk w0) (S : List Blk) (s : List UInt8) (R : AOut → List Blk → Prop) (hs : NoneOk s) (h : R (.ret (.bool true)) S) : ACall Tryz.prog w0 18 [.str s] S R := lNone w0 hP S s hs.1 hs.2 R h
theorem sTold (w0 : World) (hP : ParseOk w0) (hQ : PrintOk w0) (S : List Blk) (k n m ck cn : Int) (t s : List UInt8) (R : AOut → List Blk → Prop) (hs : ToldOk ⟨k, n, m, ck, cn, t⟩ s) (h : R (.ret (.bool true)) S) : ACall Tryz.prog w0 21 [.agg [.int .i64 k, .int .i64 n, .int .i64 m, .int .i64 ck, .int .i64 cn, .str t], .str s] S R := lTold w0 hP hQ S _ s hs.1 hs.2 R h
theorem sNoPr (w0 : World) (hQ : PrintOk w0) (S : List Blk) (k n m ck cn : Int) (t : List UInt8) (R : AOut → List Blk → Prop) (hs : NoPr ⟨k, n, m, ck, cn, t⟩) (h : R (.ret (.tup [.str [], .int .i64 2])) S) : ACall Tryz.prog w0 10 [.agg [.int .i64 k, .int .i64 n, .int .i64 m, .int .i64 ck, .int .i64 cn, .str t]] S R := hQ S _ hs.1 R (by rw [hs.2]; exact h)
theorem sTitled (w0 : World) (S : List Blk) (s : List UInt8) (R : AOut → List Blk → Prop) (h : R (.ret (.agg [.int .i64 44, .int .i64 0, .int .i64 0, .int .i64 0, .int .i64 0, .str s])) S) : ACall Tryz.prog w0 17 [.str s] S R := lTitled w0 S s R h
theorem sClip (w0 : World) (S : List Blk) (s : List UInt8) (R : AOut → List Blk → Prop) (h : R (.ret (.agg [.int .i64 46, .int .i64 0, .int .i64 0, .int .i64 0, .int .i64 0, .str s])) S) : ACall Tryz.prog w0 20 [.str s] S R := lClip w0 S s R h
theorem sPalette (w0 : World) (S : List Blk) (n c : Int) (R : AOut → List Blk → Prop) (h : R (.ret (.agg [.int .i64 45, .int .i64 n, .int .i64 0, .int .i64 2, .int .i64 c, .str []])) S) : ACall Tryz.prog w0 22 [.int .i64 n, .int .i64 c] S R := lPalette w0 S n c R h
theorem eA0 : ToldOk ⟨44, 0, 0, 0, 0, [104, 105]⟩ [50, 59, 104, 105] := ⟨by decide, by decide +kernel⟩
theorem eA1 : ToldOk ⟨45, 7, 0, 2, 16711808, []⟩ [52, 59, 55, 59, 114, 103, 98, 58, 102, 102, 47, 48, 48, 47, 56, 48] := ⟨by decide, by decide +kernel⟩
theorem eA2 : ToldOk ⟨46, 0, 0, 0, 0, [102]⟩ [53, 50, 59, 99, 59, 90, 103, 61, 61] := ⟨by decide, by decide +kernel⟩
theorem eB0 : SayOk [48, 59, 97, 59, 98] ⟨44, 0, 0, 0, 0, [97, 59, 98]⟩ := ⟨by decide, by decide +kernel⟩
theorem eB1 : SayOk [50, 59] ⟨44, 0, 0, 0, 0, []⟩ := ⟨by decide, by decide +kernel⟩
theorem eB2 : SayOk [52, 59, 48, 48, 55, 59, 114, 103, 98, 58, 70, 70, 47, 48, 48, 47, 56, 48] ⟨45, 7, 0, 2, 16711808, []⟩ := ⟨by decide, by decide +kernel⟩
theorem eB3 : NoneOk [52, 59, 50, 53, 54, 59, 114, 103, 98, 58, 48, 48, 47, 48, 48, 47, 48, 48] := ⟨by decide, by decide +kernel⟩
theorem eB4 : NoneOk [52, 59, 59, 114, 103, 98, 58, 48, 48, 47, 48, 48, 47, 48, 48] := ⟨by decide, by decide +kernel⟩
theorem eC0 : SayOk [53, 50, 59, 99, 59, 90, 103] ⟨46, 0, 0, 0, 0, [102]⟩ := ⟨by decide, by decide +kernel⟩
theorem eC1 : NoneOk [53, 50, 59, 112, 59, 90, 103] := ⟨by decide, by decide +kernel⟩
theorem eC2 : NoneOk [49, 59, 120] := ⟨by decide, by decide +kernel⟩
theorem eC3 : NoneOk [48] := ⟨by decide, by decide +kernel⟩
theorem eD0 : NoPr ⟨44, 0, 0, 0, 0, [255]⟩ := ⟨by decide, by decide +kernel⟩
theorem eD1 : NoPr ⟨45, 0, 0, 1, 1, []⟩ := ⟨by decide, by decide +kernel⟩
set_option maxHeartbeats 40000000 in
theorem worksLaw (w0 : World) (hP : ParseOk w0) (hQ : PrintOk w0) : WorksOk w0 := by
  intro S R h
  have s1 := sSays w0 hP
  have s2 := sNone w0 hP
  have s3 := sTold w0 hP hQ
  have s4 := sNoPr w0 hQ
  have s5 := sTitled w0
  have s6 := sClip w0
  have s7 := sPalette w0
  clear hP hQ
  have a0 := eA0
  have a1 := eA1
  have a2 := eA2
  have b0 := eB0
  have b1 := eB1
  have b2 := eB2
  have b3 := eB3
  have b4 := eB4
  have c0 := eC0
  have c1 := eC1
  have c2 := eC2
  have c3 := eC3
  have d0 := eD0
  have d1 := eD1
  refine enter Tryz.func12 rfl (by decide +kernel) (by rw [Tryz.ntmps12]; simp) (by rw [Tryz.ntmps12]; decide) (fun hO => ?_); rw [Tryz.ntmps12]
  repeat' first | refine st ?_ | (refine ca ?_; first | (apply s1; (· simp only [go_sem, *]; try rfl)) | (apply s2; (· simp only [go_sem, *]; try rfl)) | (apply s3; (· simp only [go_sem, *]; try rfl)) | (apply s4; (· simp only [go_sem, *]; try rfl)) | apply s5 | apply s6 | apply s7) | (refine br ?_ ?_; all_goals (intro hb; try simp only [Bool.not_eq_true', Bool.not_eq_false'] at hb)) | fail
  (apply f_ret; iterate 7 (· simp only [go_sem, *, Tryz.results12]; try rfl))
  exact h
end Go.Proofs.YtfnnjkbhmoomjaaGreatDoor
namespace Go.Proofs.YtfnnjkbhmoomjaaGreatDoor
open Go Go.Fen
set_option linter.unusedSimpArgs false
set_option linter.unusedVariables false
attribute [local irreducible] RunX WP ACall AnyP OpA ProtL afterCall afterOp
set_option maxRecDepth 8000
theorem drop_at (T : List (List UInt8)) (k : Nat) (h : k < T.length) : ∃ t rr, List.drop k (T.map AV.str) = .str t :: rr ∧ t ∈ T := by
  refine ⟨T[k], (T.map AV.str).drop (k + 1), ?_, List.getElem_mem h⟩
  rw [List.drop_eq_getElem_cons (by simpa using h)]
  simp
end Go.Proofs.YtfnnjkbhmoomjaaGreatDoor
namespace Go.Proofs.YtfnnjkbhmoomjaaGreatDoor
open Go Go.Fen
set_option linter.unusedSimpArgs false
set_option linter.unusedVariables false
attribute [local irreducible] RunX WP ACall AnyP OpA ProtL afterCall afterOp
set_option maxRecDepth 8000
def paA (o : Option Ac) : Ac := o.getD zeroA
theorem parV_eq (o : Option Ac) : parV o = .tup [.agg [.int .i64 (paA o).kind, .int .i64 (paA o).n, .int .i64 (paA o).m, .int .i64 (paA o).ck, .int .i64 (paA o).cn, .str (paA o).text], .bool o.isSome] := by cases o <;> rfl
def ShortT (s : List UInt8) : Prop := s.length ≤ 8192
theorem qP (w0 : World) (hP : ParseOk w0) (S : List Blk) (s : List UInt8) (R : AOut → List Blk → Prop) (hs : ShortT s) (h : R (.ret (.tup [.agg [.int .i64 (paA (parseO s)).kind, .int .i64 (paA (parseO s)).n, .int .i64 (paA (parseO s)).m, .int .i64 (paA (parseO s)).ck, .int .i64 (paA (parseO s)).cn, .str (paA (parseO s)).text], .bool (parseO s).isSome])) S) : ACall Tryz.prog w0 13 [.str s] S R :=
  hP S s hs R (by rw [parV_eq]; exact h)
theorem qR (w0 : World) (S : List Blk) (s : List UInt8) (R : AOut → List Blk → Prop) (hs : ShortT s) (h : R (.ret (.tup [.agg [.int .i64 (paA (parseO s)).kind, .int .i64 (paA (parseO s)).n, .int .i64 (paA (parseO s)).m, .int .i64 (paA (parseO s)).ck, .int .i64 (paA (parseO s)).cn, .str (paA (parseO s)).text], .bool (parseO s).isSome])) S) : ACall Tryz.prog w0 14 [.str s] S R :=
  rParse w0 S s hs R (by rw [parV_eq]; exact h)
set_option maxHeartbeats 40000000 in
theorem parsesLaw (w0 : World) (hP : ParseOk w0) (hQ : PrintOk w0) (S : List Blk) (s : List UInt8) (dw dn dr : Nat) (hdn : dn < 256) (dc : List Int) (dt : List UInt8) (at' : Nat) (hat : at' < 65536) (b : UInt8) (R : AOut → List Blk → Prop) (h : R (.ret (.bool true)) S) :
    ACall Tryz.prog w0 4 [.str s, draftV dw dn dr dc dt, .int .u16 at', .int .u8 (b.toNat : Int)] S R := by
  have hwo := worksLaw w0 hP hQ
  unfold WorksOk at hwo
  have t1 := fun S' => lDraft w0 S' dw dn dr hdn dc dt
  have hal := draftA_text dw dn dr dc dt
  obtain ⟨u, hu⟩ := draftA_ok dw dn dr dc dt hdn
  obtain ⟨_, hu0, hu5, _⟩ := parse_print hu
  generalize draftA dw dn dr dc dt = o at t1 hal hu
  have t2 := fun S' => rPrint w0 S' o hal
  rw [hu] at t2
  unfold printV at t2
  have p1 := qP w0 hP
  have p2 := qR w0
  obtain ⟨ck, cn, cm, cq, cr, ct⟩ := o
  have hmn : (if (600 : Int) < (s.length : Int) then 600 else (s.length : Int)) = ((min s.length 600 : Nat) : Int) := by split <;> omega
  have hm2 : ((min s.length 600 : Nat) : Int) ≤ (s.length : Int) := by omega
  obtain ⟨c, hq, hcl⟩ : ∃ c, List.take (min s.length 600) s = c ∧ c.length ≤ 600 := ⟨_, rfl, by simp; omega⟩
  have hb0 : ∀ l : List UInt8, (l == l) = true := by simp
  have hb1 : ∀ i : Int, (i == i) = true := by simp
  have hb2 : ∀ i : Bool, (i == i) = true := by simp
  have ha1 : IntKind.i64.wrap (at' : Int) = (at' : Int) := IntWalk.i64_in _ (by omega)
  have ha2 : (at' : Int).tmod (u.length : Int) = ((at' % u.length : Nat) : Int) := tmK at' _
  have ha3 : (at' : Int).tmod ((u.length : Int) + 1) = ((at' % (u.length + 1) : Nat) : Int) := tmK at' (u.length + 1)
  have hw1 : IntKind.i64.wrap ((u.length : Int) + 1) = (u.length : Int) + 1 := IntWalk.i64_in _ (by omega)
  have hb6 : (b.toNat : Int).tmod 6 = ((b.toNat % 6 : Nat) : Int) := tmK b.toNat 6
  have d0 : decide ((0 : Int) < (u.length : Int)) = true := by simp; omega
  have hn0 : ((u.length : Int) = 0) = False := eq_false (by omega)
  have hn1 : ((u.length : Int) + 1 = 0) = False := eq_false (by omega)
  have hi0 : at' % u.length < u.length := Nat.mod_lt _ hu0
  have hi1 : at' % (u.length + 1) < u.length + 1 := Nat.mod_lt _ (by omega)
  have hi2 : ((at' % (u.length + 1) : Nat) : Int) ≤ (u.length : Int) := by omega
  unfold draftV at t1 ⊢
  unfold Ac.av at t1 t2
  simp only at t1 t2 ⊢
  obtain ⟨hd, rr, hx, hdm⟩ := drop_at [[48, 59], [50, 59], [52, 59], [52, 59, 55, 59], [53, 50, 59, 99, 59], [53, 50, 59]] (b.toNat % 6) (by simp; omega)
  have hdl : hd.length ≤ 5 := by
    simp only [List.mem_cons, List.not_mem_nil, or_false] at hdm
    rcases hdm with rfl | rfl | rfl | rfl | rfl | rfl <;> decide
  simp only [List.map_cons, List.map_nil] at hx
  have hx1 := hx
  rw [← Nat.mul_one (b.toNat % 6)] at hx1
  have hk6 : ((b.toNat % 6 : Nat) : Int) < ((6 : Nat) : Int) := by omega
  have k0 : ShortT c := by unfold ShortT; omega
  have k1 : ShortT u := by unfold ShortT; omega
  have k2 : ShortT (u.set (at' % u.length) b) := by unfold ShortT; simp; omega
  have k3 : ShortT (List.take (at' % (u.length + 1)) u) := by unfold ShortT; simp; omega
  have k4 : ShortT (hd ++ c) := by unfold ShortT; simp; omega
  have hadd : hd.length + c.length ≤ 9223372036854775807 := by omega
  replace hwo := Lib.hid hwo
  replace t1 := Lib.hid t1
  replace t2 := Lib.hid t2
  have P1 := Lib.hid p1
  have P2 := Lib.hid p2
  have Hi := Lib.hid hi0
  clear hP hQ hdn p1 p2 hu hal hu5 hcl hdl hdm hi0 hi1 hat
  have hda := drop_at [c, u, u.set (at' % u.length) b, List.take (at' % (u.length + 1)) u, hd ++ c]
  have hal : ∀ t ∈ [c, u, u.set (at' % u.length) b, List.take (at' % (u.length + 1)) u, hd ++ c], ShortT t := by
    intro t ht
    simp only [List.mem_cons, List.not_mem_nil, or_false] at ht
    rcases ht with rfl | rfl | rfl | rfl | rfl <;> assumption
  simp only [List.map_cons, List.map_nil, List.length_cons, List.length_nil, Nat.zero_add, Nat.reduceAdd] at hda
  have Hda := Lib.hid hda
  have Hal := Lib.hid hal
  have H := Lib.hid h
  clear hda hal k0 k1 k2 k3 k4 h
  refine enter Tryz.func4 rfl (by decide +kernel) (by rw [Tryz.ntmps4]; simp) (by rw [Tryz.ntmps4]; decide) (fun hO => ?_); rw [Tryz.ntmps4]
  repeat' first | refine st ?_ | (refine ca ?_; first | apply t1.out | apply t2.out) | (refine br ?_ ?_; all_goals (intro hb; try simp only [Bool.not_eq_true', Bool.not_eq_false'] at hb)) | fail
  refine x_obytes (e := 5) (by (simp only [go_sem, *]; try rfl)) rfl un_9 un_38 un_5 (by (simp only [go_sem, *]; try rfl)) rfl ?_
  intro cc hcc
  have hcs := hcc.size
  have hrow : rowBytes (cc.setIfInBounds (at' % u.length) (.int .u8 (b.toNat : Int))) u.length = some (u.set (at' % u.length) b) := by
    have := (hcc.set (at' % u.length) b).row
    simpa using this
  have hfit : at' % u.length < cc.size := by have := Hi.out; omega
  clear hcc hcs
  repeat' first | refine st ?_ | (refine br ?_ ?_; all_goals (intro hb; try simp only [Bool.not_eq_true', Bool.not_eq_false'] at hb)) | fail
  refine x_oindex (i := at' % u.length) (by (simp only [go_sem, *]; try rfl)) rfl un_38 (by (simp only [go_sem, *]; try rfl)) (by (simp only [go_sem, *]; try rfl)) (by (simp only [go_sem, *]; try rfl)) Hi.out (by (simp only [go_sem, *]; try rfl)) rfl ?_
  repeat' first | refine st ?_ | (refine br ?_ ?_; all_goals (intro hb; try simp only [Bool.not_eq_true', Bool.not_eq_false'] at hb)) | fail
  refine x_ostore (b := b) (by (simp only [go_sem, *]; try rfl)) rfl (by (simp only [go_sem, *]; try rfl)) (by (simp only [go_sem, *]; try rfl)) (by (simp only [go_sem, *]; try rfl)) (by (simp only [go_sem, *]; try rfl)) hfit rfl ?_
  repeat' first | refine st ?_ | (refine br ?_ ?_; all_goals (intro hb; try simp only [Bool.not_eq_true', Bool.not_eq_false'] at hb)) | refine sd ?_ | apply pl_nil | (apply c_end; (· decide +kernel)) | refine bd ?_ ?_ | fail
  refine x_keep hO 0 [62, 63] rfl (by (simp only [go_sem, *]; try rfl)) (by (simp only [go_sem, *]; try rfl)) (by (simp only [go_sem, *]; try rfl)) ?_
  simp only [List.take_zero, List.append_nil]
  obtain ⟨L, hL⟩ : ∃ L : List AV, L = [.str c, .str u, .str (u.set (at' % u.length) b), .str (List.take (at' % (u.length + 1)) u), .str (hd ++ c)] := ⟨_, rfl⟩
  have hLt : ∀ n, ltL n L = true := by intro n; rw [hL]; rfl
  have hlen : L.length = 5 := by rw [hL]; rfl
  refine x_ind (fun (k : Nat) env S' => k ≤ 5 ∧ env 1000000 = .dfr [] ∧ env 62 = .agg L ∧ env 63 = .int .i64 (k : Int) ∧ S' = S) (fun k => 5 - k) 0 ?_ ?_
  · exact ⟨by omega, by (simp only [go_sem, *]; try rfl), by rw [hL]; (simp only [go_sem, *]; try rfl), by (simp only [go_sem, *]; try rfl), rfl⟩
  · rw [← hL] at Hda
    clear hL hx hx1 hrow hfit
    rintro k env S' ⟨hk, e0, f62, f63, rfl⟩ IH
    have HI := Lib.hid IH
    clear IH
    by_cases hlt : k < 5
    · obtain ⟨t, rr, hx, htm⟩ := Hda.out k hlt
      have htl := Hal.out t htm
      have hx1 := hx
      rw [← Nat.mul_one k] at hx1
      have h1 : decide ((k : Int) < 5) = true := by simp; omega
      have hk5 : (k : Int) < ((5 : Nat) : Int) := by omega
      have hw : IntKind.i64.wrap ((k : Int) + 1) = (k : Int) + 1 := IntWalk.i64_in _ (by omega)
      have p1 := fun S' R => P1.out S' t R htl
      have p2 := fun S' R => P2.out S' t R htl
      have Hlt := Lib.hid hlt
      clear hlt hk htm
      generalize paA (parseO t) = a at p1 p2
      generalize (parseO t).isSome = z at p1 p2
      repeat' first | refine st ?_ | (refine ca ?_; first | apply p1 | apply p2) | (refine br ?_ ?_; all_goals (intro hb; try simp only [Bool.not_eq_true', Bool.not_eq_false'] at hb)) | fail
      refine x_keep hO 0 [62, 63] rfl (by (simp only [go_sem, *]; try rfl)) (by (simp only [go_sem, *]; try rfl)) (by (simp only [go_sem, *]; try rfl)) ?_
      refine HI.out (k + 1) _ _ (by have := Hlt.out; omega) ⟨Hlt.out, ?_, ?_, ?_, ?_⟩
      all_goals (simp only [go_sem, *]; try rfl)
    · have h1 : decide ((k : Int) < 5) = false := by simp; omega
      have hh := H.out
      clear hlt hk HI
      repeat' first | refine st ?_ | (refine ca ?_; first | apply hwo.out) | (refine br ?_ ?_; all_goals (intro hb; try simp only [Bool.not_eq_true', Bool.not_eq_false'] at hb)) | fail
      (apply f_ret; iterate 7 (· simp only [go_sem, *, Tryz.results4]; try rfl))
      exact hh
end Go.Proofs.YtfnnjkbhmoomjaaGreatDoor
namespace Go.Proofs.YtfnnjkbhmoomjaaGreatDoor
open Go Go.Fen
set_option linter.unusedSimpArgs false
set_option linter.unusedVariables false
attribute [local irreducible] RunX WP ACall AnyP OpA ProtL afterCall afterOp
set_option maxRecDepth 8000
namespace OscParses
theorem contract (H : Type) (enc : TypeId × Value → H) (W : World) (base : Nat) (args : Array Value) (ds gs : List (DataW H)) (before : List MemPlace)
    (hval : ∀ (j : Nat) t v, Tryz.f4.params[j]? = some t → args[j]? = some v → Value.okWide Tryz.prog W .any base t v)
    (hW : DataW.Whole enc Tryz.prog Tryz.f4.params.toList Rows.oscParsesSpec.vars false W args.toList ds gs before) (hL : laidMetH Tryz.prog seatLaid W) :
    Calls Tryz.prog 4 args W fun e W' => ∃ v, e = .returned v ∧ Rows.oscParsesSpec.post enc Tryz.prog Tryz.f4 false true false false W args v W' := by
  refine law_close (n := 20) (tb := 4) [.str, draftSk, (.int .u16), (.int .u8)] laidOut ?_ (by rw [Tryz.params4]; kernel_rfl) (by kernel_rfl) un_4 rfl ?_ hW hval ?_
  · rw [Tryz.params4]
    have : ([9, 29, 37, 5].all fun t => Tryz.prog.readableRec t && decide (t < Tryz.prog.types.size)) = true := by kernel_rfl
    intro t ht
    simpa using List.all_eq_true.1 this t (by simpa using ht)
  · intro h
    rw [Tryz.params4] at h
    match ds, h with
    | [d1, d2, d3, d4], _ => rfl
  · intro avs ha
    obtain ⟨y1, r1, h1, e1, ha1⟩ := ArgsH.cons' ha
    obtain ⟨y2, r2, h2, e2, ha2⟩ := ArgsH.cons' ha1
    obtain ⟨y3, r3, h3, e3, ha3⟩ := ArgsH.cons' ha2
    obtain ⟨y4, r4, h4, e4, ha4⟩ := ArgsH.cons' ha3
    have e5 := ArgsH.nil' ha4
    rw [e1, e2, e3, e4, e5]
    obtain ⟨s, rfl, _⟩ := h1
    obtain ⟨w, n, r, c, t, hn, hd⟩ := open_draft y2 h2
    obtain ⟨p, rfl, hp⟩ := h3
    obtain ⟨b, rfl, hb⟩ := h4
    have hm := wf_max hp
    have hm2 : IntKind.u16.max = 65535 := by decide
    have hm3 := wf_max hb
    have hm4 : IntKind.u8.max = 255 := by decide
    have hp2 := wf_nat hp rfl
    have hb2 := wf_nat hb rfl
    have hb3 : (((UInt8.ofNat b.toNat).toNat : Nat) : Int) = b := by
      have : b.toNat < 256 := by omega
      rw [UInt8.toNat_ofNat', Nat.mod_eq_of_lt (by omega)]; exact hb2
    have e : [Sk.str.mk [.str s], draftSk.mk y2, (Sk.int .u16).mk [.int .u16 p], (Sk.int .u8).mk [.int .u8 b]] = [.str s, draftV w n r c t, .int .u16 (p.toNat : Nat), .int .u8 ((UInt8.ofNat b.toNat).toNat : Int)] := by
      rw [hd, hp2, hb3]; rfl
    rw [e]
    exact parsesLaw W (parse_of hL) (print_of hL) [] s w n r hn c t p.toNat (by omega) (UInt8.ofNat b.toNat) _ rfl
def wit : Array Value := #[.string ⟨#[]⟩, .agg #[.int .u8 0, .int .u8 0, .int .u32 0, .slice none 0 0, .string ⟨#[]⟩], .int .u16 0, .int .u8 0]
set_option maxRecDepth 100000 in
theorem lifted (os : Os) (started : os.Started) (H : Type) (enc : TypeId × Value → H) :
    ReturnsInHanded {} Tryz.checked os 4 .any (fun w args => (Rows.oscParsesSpec.pre enc Tryz.prog Tryz.f4 Rows.oscParsesRow.domain false w args ∧ laidMetH Tryz.prog seatLaid w) ∧ sizedMet enc Tryz.prog Tryz.f4 (OpenSpec.ofChange Rows.oscParsesSpec) false w args)
      (Rows.oscParsesSpec.post enc Tryz.prog Tryz.f4 false true false false) := by
  refine returnsInHanded_of_change_and (C := Tryz.checked) (X := fun w _ => laidMetH Tryz.prog seatLaid w) (fun _ _ _ hh h => h.of_heap hh) own started (by kernel_rfl) Tryz.func4
    (ChangeSpec.witness_shaped (enc := enc) (C := Tryz.checked) (os := os) (X := fun w _ => laidMetH Tryz.prog seatLaid w) false (World.laidAll Tryz.prog os seatLaid) wit 8 (World.laidAll_os _ _ _)
      (World.shaped_of_ZipB (by kernel_rfl) (by kernel_rfl)) (by kernel_rfl) (by kernel_rfl) (by kernel_rfl)
      (by rw [MakeChecks.laidMetH_plain _ _ _ (by kernel_rfl)]; exact laidMet_laidAll _ (by kernel_rfl) (by kernel_rfl))) ?_
  intro W base args ds gs before hval hW _ _ hL _
  exact contract H enc W base args ds gs before hval hW hL
theorem said : Rows.OscParsesSaid :=
  OpenClaim.holds_of_wide 4 Tryz.f4 rfl rfl rfl rfl rfl rfl rfl ⟨rfl, rfl, rfl, rfl, rfl⟩ rfl rfl rfl rfl rfl (by kernel_rfl) Tryz.func4 (by kernel_rfl)
    (of_decide_eq_true (by kernel_rfl)) (by unfold Func.isWrapper; first | (rw [if_pos (by decide +kernel)]; kernel_rfl) | (rw [if_neg (by decide +kernel)]; exact ⟨rfl, rfl⟩))
    (fun os started H enc _ => lifted os started H enc)
theorem plainF (f : FuncId) (fn : Func) (hf : Tryz.pinned.checked.prog.funcNamed "fenestra/fenestralaw08.OscParses" = some f) (hfn : Tryz.pinned.checked.prog.funcs[f]? = some fn) :
    true = Tryz.pinned.checked.prog.looks [] ∧ ∀ (j : Nat) t, fn.params[j]? = some t → Tryz.pinned.checked.prog.wantsStandIn t = false := by
  obtain rfl : f = 4 := Option.some.inj ((show Tryz.prog.funcNamed "fenestra/fenestralaw08.OscParses" = some 4 by kernel_rfl).symm.trans hf) |>.symm
  obtain rfl : fn = Tryz.f4 := (Option.some.inj (Tryz.func4.symm.trans hfn)).symm
  refine ⟨by kernel_rfl, fun j t ht => ?_⟩
  rw [Tryz.params4] at ht
  have hm : t ∈ [9, 29, 37, 5] := by simpa using Array.mem_of_getElem? ht
  have hall : ([9, 29, 37, 5].all fun u => !Tryz.prog.wantsStandIn u) = true := by kernel_rfl
  exact (show Tryz.prog.wantsStandIn t = false by simpa using List.all_eq_true.1 hall t hm)
theorem card : Rows.OscParsesCardSaid :=
  Claim7.holds_tied_plain_at .later [] _ _ _ _ said (fun _ h => by cases h) (by kernel_rfl) (fun _ h => by cases h) oscParses_row_tie rfl ⟨rfl, rfl⟩ (by kernel_rfl) rfl plainF (by kernel_rfl)
end OscParses
end Go.Proofs.YtfnnjkbhmoomjaaGreatDoor
