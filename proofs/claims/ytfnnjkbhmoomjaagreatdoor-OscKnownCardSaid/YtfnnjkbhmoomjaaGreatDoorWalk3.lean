/- YtfnnjkbhmoomjaaGreatDoorWalk3. Texts of the proof of a law about texts: a layer of abstract values above the worlds, the types, the walks of the functions that the law reaches, the law and its card. Own work of an AI agent. -/
import Derived.Test.YtfnnjkbhmoomjaaGreatDoorWalk2
import Derived.Test.YtfnnjkbhmoomjaaGreatDoorCore2
import Derived.Test.YtfnnjkbhmoomjaaGreatDoorCards
import Derived.Test.YtfnnjkbhmoomjaaGreatDoorTie
import Derived.ProofKit
import Derived.OpenShut
import Derived.LaidMore
import Derived.Lay
import Derived.SevenTiedAt
import Derived.Stop.Joined
import Derived.Test.YtfnnjkbhmoomjaaGreatDoorWalk1
set_option linter.all false
set_option linter.unusedVariables false
set_option linter.unusedSimpArgs false
namespace Go.Proofs.YtfnnjkbhmoomjaaGreatDoor
open Go Go.Fen
set_option linter.unusedSimpArgs false
set_option linter.unusedVariables false
attribute [local irreducible] RunX WP ACall AnyP OpA ProtL afterCall afterOp
set_option maxRecDepth 8000
open Go.ChangeShapes Go.WideShapes Go.ChangeAt Go.RowKit
theorem own : ownKnob Tryz.prog.godebug = none := by kernel_rfl
theorem laid_mem {P : Program} {W : World} {nm : String} {d : DataW Unit} : ∀ {l : List (String × DataW Unit)} {ps : List MemPlace}, DataW.LaidVars P W l ps → (nm, d) ∈ l →
    ∃ g t cs fuel p, P.globalNamed nm = some g ∧ (P.globals[g]?).map (·.type) = some t ∧ W.var? P nm = some cs ∧ DataW.trod (fun _ => ()) P W 0 (fun _ => true) false fuel t cs.toList = some (d, p) := by
  intro l
  induction l with
  | nil => intro ps _ h; cases h
  | cons x l ih =>
    intro ps h hm
    obtain ⟨nm', d'⟩ := x
    obtain ⟨g, t, cs, fuel, p, q, h1, h2, h3, h4, h5, _⟩ := h
    rcases List.mem_cons.1 hm with e | hm
    · cases e; exact ⟨g, t, cs, fuel, p, h1, h2, h3, h4⟩
    · exact ih h5 hm
def seatLaid : List (String × DataW Unit) := [("math/bits.deBruijn32tab", Rows.laid_math_bits_deBruijn32tab), ("math/bits.deBruijn64tab", Rows.laid_math_bits_deBruijn64tab), ("internal/strconv.uint64pow10", Rows.laid_internal_strconv_uint64pow10), ("unicode/utf8.acceptRanges", Rows.laid_unicode_utf8_acceptRanges), ("strconv.ErrRange", Rows.laid_strconv_ErrRange), ("strconv.ErrSyntax", Rows.laid_strconv_ErrSyntax), ("fenestra/color.named", Rows.laid_fenestra_color_named), ("unicode/utf8.first", Rows.laid_unicode_utf8_first)]
theorem gPow : Tryz.prog.globalNamed "internal/strconv.uint64pow10" = some 4 := by kernel_rfl
theorem gSyn : Tryz.prog.globalNamed "strconv.ErrSyntax" = some 2 := by kernel_rfl
theorem tab_of {W : World} (h : laidMetH Tryz.prog seatLaid W) : Tab W := by
  rw [MakeChecks.laidMetH_plain _ _ _ (by kernel_rfl)] at h
  obtain ⟨ps, hl, _⟩ := h
  obtain ⟨g, t, cs, fuel, p, h1, h2, h3, h4⟩ := laid_mem (nm := "internal/strconv.uint64pow10") (d := Rows.laid_internal_strconv_uint64pow10) hl (by simp [seatLaid])
  obtain rfl := Option.some.inj (gPow.symm.trans h1)
  obtain rfl := Option.some.inj ((show (Tryz.prog.globals[4]?).map (·.type) = some 176 by kernel_rfl).symm.trans h2)
  have h5 := Lib.cells_of_tab (k := .u64) (zs := Lib.pow10Tab) (un_176) (un_106) (by kernel_rfl) (by kernel_rfl) h4
  unfold Tab Lib.TabIs
  rw [h3, ← h5]
theorem syn_of {W : World} (h : laidMetH Tryz.prog seatLaid W) : Syn W := by
  rw [MakeChecks.laidMetH_plain _ _ _ (by kernel_rfl)] at h
  obtain ⟨ps, hl, _⟩ := h
  obtain ⟨g, t, cs, fuel, p, h1, h2, h3, h4⟩ := laid_mem (nm := "strconv.ErrSyntax") (d := Rows.laid_strconv_ErrSyntax) hl (by simp [seatLaid])
  obtain rfl := Option.some.inj (gSyn.symm.trans h1)
  obtain rfl := Option.some.inj ((show (Tryz.prog.globals[2]?).map (·.type) = some 85 by kernel_rfl).symm.trans h2)
  cases fuel with
  | zero => simp [DataW.trod] at h4
  | succ fuel =>
  simp only [DataW.trod, un_85] at h4
  have hc := World.var?_cell gSyn h3 0
  match hcs : cs.toList, h4 with
  | [.nilIface], _ => exact ⟨.nilIface, by rw [hc, ← Array.getElem?_toList, hcs]; rfl, .inl rfl⟩
  | [.iface u v], _ => exact ⟨.iface u v, by rw [hc, ← Array.getElem?_toList, hcs]; rfl, .inr ⟨u, v, rfl⟩⟩
theorem gRng : Tryz.prog.globalNamed "strconv.ErrRange" = some 3 := by kernel_rfl
theorem rng_of {W : World} (h : laidMetH Tryz.prog seatLaid W) : Rng W := by
  rw [MakeChecks.laidMetH_plain _ _ _ (by kernel_rfl)] at h
  obtain ⟨ps, hl, _⟩ := h
  obtain ⟨g, t, cs, fuel, p, h1, h2, h3, h4⟩ := laid_mem (nm := "strconv.ErrRange") (d := Rows.laid_strconv_ErrRange) hl (by simp [seatLaid])
  obtain rfl := Option.some.inj (gRng.symm.trans h1)
  obtain rfl := Option.some.inj ((show (Tryz.prog.globals[3]?).map (·.type) = some 85 by kernel_rfl).symm.trans h2)
  cases fuel with
  | zero => simp [DataW.trod] at h4
  | succ fuel =>
  simp only [DataW.trod, un_85] at h4
  have hc := World.var?_cell gRng h3 0
  match hcs : cs.toList, h4 with
  | [.nilIface], _ => exact ⟨.nilIface, by rw [hc, ← Array.getElem?_toList, hcs]; rfl, .inl rfl⟩
  | [.iface u v], _ => exact ⟨.iface u v, by rw [hc, ← Array.getElem?_toList, hcs]; rfl, .inr ⟨u, v, rfl⟩⟩
theorem gl_tab {W : World} {nm : String} {g : Nat} {cs : Array Value} {k : IntKind} {zs : List Int} (hg : Tryz.prog.globalNamed nm = some g) (h : W.var? Tryz.prog nm = some cs) (hc : cs.toList = zs.map fun z => Value.int k z) : gl W g = .pro (zs.map fun z => AV.int k z) := by
  unfold World.var? at h
  rw [hg] at h
  simp only [Option.bind_some] at h
  unfold gl
  split at h
  · next c T fz hh =>
    cases h
    rw [hh]
    simp only [hc]
    have hall : (zs.map fun z => Value.int k z).all Value.oneCell' = true := by
      rw [List.all_eq_true]
      intro x hx
      obtain ⟨z, _, rfl⟩ := List.mem_map.1 hx
      rfl
    rw [hall, if_pos rfl, List.map_map]
    rfl
  · cases h
theorem gDeb : Tryz.prog.globalNamed "math/bits.deBruijn64tab" = some 8 := by kernel_rfl
theorem gNam : Tryz.prog.globalNamed "fenestra/color.named" = some 1 := by kernel_rfl
theorem deb_of {W : World} (h : laidMetH Tryz.prog seatLaid W) : DeB W := by
  rw [MakeChecks.laidMetH_plain _ _ _ (by kernel_rfl)] at h
  obtain ⟨ps, hl, _⟩ := h
  obtain ⟨g, t, cs, fuel, p, h1, h2, h3, h4⟩ := laid_mem (nm := "math/bits.deBruijn64tab") (d := Rows.laid_math_bits_deBruijn64tab) hl (by simp [seatLaid])
  obtain rfl := Option.some.inj (gDeb.symm.trans h1)
  obtain rfl := Option.some.inj ((show (Tryz.prog.globals[8]?).map (·.type) = some 192 by kernel_rfl).symm.trans h2)
  have h5 := Lib.cells_of_tab (k := .u8) (zs := [0, 1, 56, 2, 57, 49, 28, 3, 61, 58, 42, 50, 38, 29, 17, 4, 62, 47, 59, 36, 45, 43, 51, 22, 53, 39, 33, 30, 24, 18, 12, 5, 63, 55, 48, 27, 60, 41, 37, 16, 46, 35, 44, 21, 52, 32, 23, 11, 54, 26, 40, 15, 34, 20, 31, 10, 25, 14, 19, 9, 13, 8, 7, 6]) (un_192) (un_5) (by kernel_rfl) (by kernel_rfl) h4
  exact gl_tab gDeb h3 h5
theorem nam_of {W : World} (h : laidMetH Tryz.prog seatLaid W) : Nam W := by
  rw [MakeChecks.laidMetH_plain _ _ _ (by kernel_rfl)] at h
  obtain ⟨ps, hl, _⟩ := h
  obtain ⟨g, t, cs, fuel, p, h1, h2, h3, h4⟩ := laid_mem (nm := "fenestra/color.named") (d := Rows.laid_fenestra_color_named) hl (by simp [seatLaid])
  obtain rfl := Option.some.inj (gNam.symm.trans h1)
  obtain rfl := Option.some.inj ((show (Tryz.prog.globals[1]?).map (·.type) = some 147 by kernel_rfl).symm.trans h2)
  have h5 := Lib.cells_of_tab (k := .i64) (zs := [0, 13434880, 52480, 13487360, 238, 13435085, 52685, 15066597, 8355711, 16711680, 65280, 16776960, 6053119, 16711935, 65535, 16777215]) (un_147) (un_3) (by kernel_rfl) (by kernel_rfl) h4
  exact gl_tab gNam h3 h5
theorem parse_of {W : World} (h : laidMetH Tryz.prog seatLaid W) : ParseOk W := parseOk W (syn_of h) (rng_of h)
theorem print_of {W : World} (h : laidMetH Tryz.prog seatLaid W) : PrintOk W := printOk W (tab_of h) (deb_of h) (nam_of h)
theorem laidOut : laidOutB Tryz.prog = true := by kernel_rfl
end Go.Proofs.YtfnnjkbhmoomjaaGreatDoor
namespace Go.Proofs.YtfnnjkbhmoomjaaGreatDoor
open Go Go.Fen
set_option linter.unusedSimpArgs false
set_option linter.unusedVariables false
attribute [local irreducible] RunX WP ACall AnyP OpA ProtL afterCall afterOp
set_option maxRecDepth 8000
def SayOk (s : List UInt8) (a : Ac) : Prop := s.length ≤ 8192 ∧ parseO s = some a
def NoneOk (s : List UInt8) : Prop := s.length ≤ 8192 ∧ parseO s = none
def ToldOk (a : Ac) (s : List UInt8) : Prop := a.text.length ≤ 10000 ∧ printO a = some s
def NoPr (a : Ac) : Prop := a.text.length ≤ 10000 ∧ printO a = none
theorem sSays (w0 : World) (hP : ParseOk w0) (S : List Blk) (s : List UInt8) (k n m ck cn : Int) (t : List UInt8) (R : AOut → List Blk → Prop) (hs : SayOk s ⟨k, n, m, ck, cn, t⟩) (h : R (.ret (.bool true)) S) : ACall Tryz.prog w0 15 [.str s, .agg [.int .i64 k, .int .i64 n, .int .i64 m, .int .i64 ck, .int .i64 cn, .str t]] S R := lSays w0 hP S s _ hs.1 hs.2 R h
theorem sNone (w0 : World) (hP : ParseOk w0) (S : List Blk) (s : List UInt8) (R : AOut → List Blk → Prop) (hs : NoneOk s) (h : R (.ret (.bool true)) S) : ACall Tryz.prog w0 18 [.str s] S R := lNone w0 hP S s hs.1 hs.2 R h
theorem sTold (w0 : World) (hP : ParseOk w0) (hQ : PrintOk w0) (S : List Blk) (k n m ck cn : Int) (t s : List UInt8) (R : AOut → List Blk → Prop) (hs : ToldOk ⟨k, n, m, ck, cn, t⟩ s) (h : R (.ret (.bool true)) S) : ACall Tryz.prog w0 21 [.agg [.int .i64 k, .int .i64 n, .int .i64 m, .int .i64 ck, .int .i64 cn, .str t], .str s] S R := lTold w0 hP hQ S _ s hs.1 hs.2 R h
theorem sNoPr (w0 : World) (hQ : PrintOk w0) (S : List Blk) (k n m ck cn : Int) (t : List UInt8) (R : AOut → List Blk → Prop) (hs : NoPr ⟨k, n, m, ck, cn, t⟩) (h : R (.ret (.tup [.str [], .int .i64 2])) S) : ACall Tryz.prog w0 10 [.agg [.int .i64 k, .int .i64 n, .int .i64 m, .int .i64 ck, .int .i64 cn, .str t]] S R := hQ S _ hs.1 R (by rw [hs.2]; exact h)
theorem sPrint (w0 : World) (hQ : PrintOk w0) (S : List Blk) (k n m ck cn : Int) (t s : List UInt8) (R : AOut → List Blk → Prop) (hs : ToldOk ⟨k, n, m, ck, cn, t⟩ s) (h : R (.ret (.tup [.str s, .int .i64 0])) S) : ACall Tryz.prog w0 10 [.agg [.int .i64 k, .int .i64 n, .int .i64 m, .int .i64 ck, .int .i64 cn, .str t]] S R := hQ S _ hs.1 R (by rw [hs.2]; exact h)
theorem sTitled (w0 : World) (S : List Blk) (s : List UInt8) (R : AOut → List Blk → Prop) (h : R (.ret (.agg [.int .i64 44, .int .i64 0, .int .i64 0, .int .i64 0, .int .i64 0, .str s])) S) : ACall Tryz.prog w0 17 [.str s] S R := lTitled w0 S s R h
theorem sClip (w0 : World) (S : List Blk) (s : List UInt8) (R : AOut → List Blk → Prop) (h : R (.ret (.agg [.int .i64 46, .int .i64 0, .int .i64 0, .int .i64 0, .int .i64 0, .str s])) S) : ACall Tryz.prog w0 20 [.str s] S R := lClip w0 S s R h
theorem sPalette (w0 : World) (S : List Blk) (n c : Int) (R : AOut → List Blk → Prop) (h : R (.ret (.agg [.int .i64 45, .int .i64 n, .int .i64 0, .int .i64 2, .int .i64 c, .str []])) S) : ACall Tryz.prog w0 22 [.int .i64 n, .int .i64 c] S R := lPalette w0 S n c R h
theorem eA0 : ToldOk ⟨44, 0, 0, 0, 0, [104, 105]⟩ [50, 59, 104, 105] := ⟨by decide, by decide +kernel⟩
theorem eA1 : ToldOk ⟨45, 7, 0, 2, 16711808, []⟩ [52, 59, 55, 59, 114, 103, 98, 58, 102, 102, 47, 48, 48, 47, 56, 48] := ⟨by decide, by decide +kernel⟩
theorem eA2 : ToldOk ⟨46, 0, 0, 0, 0, [102]⟩ [53, 50, 59, 99, 59, 90, 103, 61, 61] := ⟨by decide, by decide +kernel⟩
theorem eB0 : SayOk [48, 59, 97, 59, 98] ⟨44, 0, 0, 0, 0, [97, 59, 98]⟩ := ⟨by decide, by decide +kernel⟩
theorem eB1 : SayOk [50, 59] ⟨44, 0, 0, 0, 0, []⟩ := ⟨by decide, by decide +kernel⟩
theorem eB2 : SayOk [52, 59, 48, 48, 55, 59, 114, 103, 98, 58, 70, 70, 47, 48, 48, 47, 56, 48] ⟨45, 7, 0, 2, 16711808, []⟩ := ⟨by decide, by decide +kernel⟩
theorem eB3 : NoneOk [52, 59, 50, 53, 54, 59, 114, 103, 98, 58, 48, 48, 47, 48, 48, 47, 48, 48] := ⟨by decide, by decide +kernel⟩
theorem eB4 : NoneOk [52, 59, 59, 114, 103, 98, 58, 48, 48, 47, 48, 48, 47, 48, 48] := ⟨by decide, by decide +kernel⟩
theorem eC0 : SayOk [53, 50, 59, 99, 59, 90, 103] ⟨46, 0, 0, 0, 0, [102]⟩ := ⟨by decide, by decide +kernel⟩
theorem eC1 : NoneOk [53, 50, 59, 112, 59, 90, 103] := ⟨by decide, by decide +kernel⟩
theorem eC2 : NoneOk [49, 59, 120] := ⟨by decide, by decide +kernel⟩
theorem eC3 : NoneOk [48] := ⟨by decide, by decide +kernel⟩
theorem eD0 : NoPr ⟨44, 0, 0, 0, 0, [255]⟩ := ⟨by decide, by decide +kernel⟩
theorem eD1 : NoPr ⟨45, 0, 0, 1, 1, []⟩ := ⟨by decide, by decide +kernel⟩
set_option maxHeartbeats 40000000 in
theorem worksLaw (w0 : World) (hP : ParseOk w0) (hQ : PrintOk w0) : WorksOk w0 := by
  intro S R h
  have s1 := sSays w0 hP
  have s2 := sNone w0 hP
  have s3 := sTold w0 hP hQ
  have s4 := sNoPr w0 hQ
  have s5 := sTitled w0
  have s6 := sClip w0
  have s7 := sPalette w0
  clear hP hQ
  have a0 := eA0
  have a1 := eA1
  have a2 := eA2
  have b0 := eB0
  have b1 := eB1
  have b2 := eB2
  have b3 := eB3
  have b4 := eB4
  have c0 := eC0
  have c1 := eC1
  have c2 := eC2
  have c3 := eC3
  have d0 := eD0
  have d1 := eD1
  refine enter Tryz.func12 rfl (by decide +kernel) (by rw [Tryz.ntmps12]; simp) (by rw [Tryz.ntmps12]; decide) (fun hO => ?_); rw [Tryz.ntmps12]
  repeat' first | refine st ?_ | (refine ca ?_; first | (apply s1; (· simp only [go_sem, *]; try rfl)) | (apply s2; (· simp only [go_sem, *]; try rfl)) | (apply s3; (· simp only [go_sem, *]; try rfl)) | (apply s4; (· simp only [go_sem, *]; try rfl)) | apply s5 | apply s6 | apply s7) | (refine br ?_ ?_; all_goals (intro hb; try simp only [Bool.not_eq_true', Bool.not_eq_false'] at hb)) | fail
  (apply f_ret; iterate 7 (· simp only [go_sem, *, Tryz.results12]; try rfl))
  exact h
end Go.Proofs.YtfnnjkbhmoomjaaGreatDoor
namespace Go.Proofs.YtfnnjkbhmoomjaaGreatDoor
open Go Go.Fen
set_option linter.unusedSimpArgs false
set_option linter.unusedVariables false
attribute [local irreducible] RunX WP ACall AnyP OpA ProtL afterCall afterOp
set_option maxRecDepth 8000
theorem fN0 : NoneOk [] := ⟨by decide, by decide +kernel⟩
theorem fN1 : NoneOk [59] := ⟨by decide, by decide +kernel⟩
theorem fN2 : NoneOk [50] := ⟨by decide, by decide +kernel⟩
theorem fN3 : NoneOk [48, 50, 59, 97] := ⟨by decide, by decide +kernel⟩
theorem fN4 : NoneOk [52, 59, 49] := ⟨by decide, by decide +kernel⟩
theorem fN5 : NoneOk [52, 59, 48, 48, 48, 49, 59, 114, 103, 98, 58, 48, 48, 47, 48, 48, 47, 48, 48] := ⟨by decide, by decide +kernel⟩
theorem fN6 : NoneOk [52, 59, 49, 59, 114, 103, 98, 58, 48, 47, 48, 47, 48] := ⟨by decide, by decide +kernel⟩
theorem fN7 : NoneOk [53, 50, 59, 99] := ⟨by decide, by decide +kernel⟩
theorem fN8 : NoneOk [53, 50, 59, 59, 90, 103, 61, 61] := ⟨by decide, by decide +kernel⟩
theorem fN9 : NoneOk [53, 50, 59, 99, 59, 90] := ⟨by decide, by decide +kernel⟩
theorem fN10 : NoneOk [50, 59, 194, 133] := ⟨by decide, by decide +kernel⟩
theorem fN11 : NoneOk [50, 59, 127] := ⟨by decide, by decide +kernel⟩
theorem fT0 : ToldOk ⟨45, 0, 0, 2, 0, []⟩ [52, 59, 48, 59, 114, 103, 98, 58, 48, 48, 47, 48, 48, 47, 48, 48] := ⟨by decide, by decide +kernel⟩
theorem fT1 : ToldOk ⟨45, 255, 0, 2, 16777215, []⟩ [52, 59, 50, 53, 53, 59, 114, 103, 98, 58, 102, 102, 47, 102, 102, 47, 102, 102] := ⟨by decide, by decide +kernel⟩
theorem fT2 : ToldOk ⟨46, 0, 0, 0, 0, []⟩ [53, 50, 59, 99, 59] := ⟨by decide, by decide +kernel⟩
theorem fT3 : ToldOk ⟨44, 0, 0, 0, 0, []⟩ [50, 59] := ⟨by decide, by decide +kernel⟩
theorem fT4 : ToldOk ⟨44, 0, 0, 0, 0, [195, 169, 59]⟩ [50, 59, 195, 169, 59] := ⟨by decide, by decide +kernel⟩
theorem fP0 : NoPr ⟨45, 256, 0, 2, 0, []⟩ := ⟨by decide, by decide +kernel⟩
theorem fP1 : NoPr ⟨45, 0, 0, 2, -1, []⟩ := ⟨by decide, by decide +kernel⟩
theorem fP2 : NoPr ⟨44, 1, 0, 0, 0, []⟩ := ⟨by decide, by decide +kernel⟩
theorem fP3 : NoPr ⟨2, 0, 0, 0, 0, []⟩ := ⟨by decide, by decide +kernel⟩
theorem fK0 : NoPr ⟨44, 0, 0, 0, 0, List.replicate 510 116 ++ [116]⟩ := ⟨by decide +kernel, by decide +kernel⟩
theorem fK1 : NoPr ⟨46, 0, 0, 0, 0, List.replicate 378 99 ++ [99]⟩ := ⟨by decide +kernel, by decide +kernel⟩
theorem fK2 : ToldOk ⟨46, 0, 0, 0, 0, List.replicate 378 99⟩ (53 :: 50 :: 59 :: 99 :: 59 :: encF (List.replicate 378 99)) := ⟨by decide +kernel, by decide +kernel⟩
theorem fK3 : SayOk (50 :: 59 :: List.replicate 510 116) ⟨44, 0, 0, 0, 0, List.replicate 510 116⟩ := ⟨by decide +kernel, by decide +kernel⟩
theorem fK4 : NoneOk (50 :: 59 :: (List.replicate 510 116 ++ [116])) := ⟨by decide +kernel, by decide +kernel⟩
theorem fKl : (53 :: 50 :: 59 :: 99 :: 59 :: encF (List.replicate 378 99)).length = 509 := by decide +kernel
theorem fK5 : SayOk (53 :: 50 :: 59 :: 99 :: 59 :: encF (List.replicate 378 99)) ⟨46, 0, 0, 0, 0, List.replicate 378 99⟩ := ⟨by rw [fKl]; decide, (parse_print fK2.2).1⟩
set_option maxHeartbeats 64000000 in
theorem knownLaw (w0 : World) (hP : ParseOk w0) (hQ : PrintOk w0) (S : List Blk) (R : AOut → List Blk → Prop) (h : R (.ret (.bool true)) S) :
    ACall Tryz.prog w0 8 [] S R := by
  have s1 := sSays w0 hP
  have s2 := sNone w0 hP
  have s3 := sTold w0 hP hQ
  have s4 := sNoPr w0 hQ
  have s5 := sTitled w0
  have s6 := sClip w0
  have s7 := sPalette w0
  have s8 := sPrint w0 hQ
  have hwo := worksLaw w0 hP hQ
  unfold WorksOk at hwo
  obtain ⟨x1, hx1, l1⟩ : ∃ x1 : List UInt8, List.replicate 510 116 = x1 ∧ x1.length = 510 := ⟨_, rfl, by simp⟩
  obtain ⟨x2, hx2, l2⟩ : ∃ x2 : List UInt8, List.replicate 378 99 = x2 ∧ x2.length = 378 := ⟨_, rfl, by simp⟩
  have p1 : ∀ S' (R : AOut → List Blk → Prop), R (.ret (.str x1)) S' → ACall Tryz.prog w0 19 [.str [116], .int .i64 510] S' R := fun S' R h => repeatS w0 S' [116] 510 (by decide) (by decide) R (by rw [repeat_one, hx1]; exact h)
  have p2 : ∀ S' (R : AOut → List Blk → Prop), R (.ret (.str x2)) S' → ACall Tryz.prog w0 19 [.str [99], .int .i64 378] S' R := fun S' R h => repeatS w0 S' [99] 378 (by decide) (by decide) R (by rw [repeat_one, hx2]; exact h)
  have k0 := fK0
  have k1 := fK1
  have k2 := fK2
  have k3 := fK3
  have k4 := fK4
  have k5 := fK5
  have kl := fKl
  rw [hx1] at k0 k3 k4
  rw [hx2] at k1 k2 k5 kl
  clear hx1 hx2
  generalize 53 :: 50 :: 59 :: 99 :: 59 :: encF x2 = E at *
  have p8 : ∀ S' (R : AOut → List Blk → Prop), R (.ret (.tup [.str E, .int .i64 0])) S' → ACall Tryz.prog w0 10 [.agg [.int .i64 46, .int .i64 0, .int .i64 0, .int .i64 0, .int .i64 0, .str x2]] S' R := fun S' R h => s8 S' 46 0 0 0 0 x2 E R k2 h
  clear s8
  have kl2 : ((E.length : Int) == 509) = true := by rw [kl]; rfl
  clear kl
  have Hwo := Lib.hid hwo
  clear hwo hP hQ
  have Hk3 := Lib.hid k3
  have Hk4 := Lib.hid k4
  have Hk5 := Lib.hid k5
  have Hkl := Lib.hid kl2
  have Hl1 := Lib.hid l1
  clear k3 k4 k5 kl2
  refine enter Tryz.func8 rfl (by decide +kernel) (by rw [Tryz.ntmps8]; simp) (by rw [Tryz.ntmps8]; decide) (fun hO => ?_); rw [Tryz.ntmps8]
  repeat' first | apply x_seq | apply x_skip | apply x_block | apply x_exit | apply x_ret | apply x_ops_nil | apply p_blk | apply p_exit_it | apply p_exit_hit | apply p_ret_it | apply p_ret_blk | apply p_panic_it | apply p_panic_blk | apply p_end | (apply p_exit_miss; (· rfl)) | (apply x_region; simp only [List.toList_toArray]) | (apply x_step0; (· rfl); (· simp only [go_sem, *, List.length_append, List.length_cons, List.length_nil]; try rfl); (· rfl); simp only [putA]) | (apply ac_ret; simp only [putA]) | apply ac_panic | (apply x_callA []; (· simp only [go_sem, *, List.length_append, List.length_cons, List.length_nil]; try rfl); (· rfl); (· simp only [go_sem, *, List.length_append, List.length_cons, List.length_nil]; try rfl); (· rfl); (iterate 2 (· simp only [go_sem, *, List.length_append, List.length_cons, List.length_nil]; try rfl)); (first | apply p1 | apply p2 | (apply s4; (· simp only [go_sem, *, List.length_append, List.length_cons, List.length_nil]; try rfl)) | apply s5 | apply s6 | apply p8); simp only [afterCall, putA]) | (apply x_panic; (· simp only [go_sem, *, List.length_append, List.length_cons, List.length_nil]; try rfl); (· rfl); (· simp only [go_sem, *, List.length_append, List.length_cons, List.length_nil]; try rfl)) | (apply x_step; (iterate 2 (· simp only [go_sem, *, List.length_append, List.length_cons, List.length_nil]; try rfl)); (· rfl); simp only [putA]) | (apply x_unwanted; (· simp only [go_sem, *, List.length_append, List.length_cons, List.length_nil]; try rfl); (· rfl); simp only [putA]) | (apply x_condT; (· simp only [go_sem, *, List.length_append, List.length_cons, List.length_nil]; try rfl)) | (apply x_condF; (· simp only [go_sem, *, List.length_append, List.length_cons, List.length_nil]; try rfl)) | (apply x_guardS; (· rfl); (fail_if_success (focus (show _ = some true; (· simp only [go_sem, *, List.length_append, List.length_cons, List.length_nil]; try rfl)))); (· simp only [go_sem, *, List.length_append, List.length_cons, List.length_nil]; try rfl); all_goals (intro hb; try simp only [Bool.not_eq_true', Bool.not_eq_false'] at hb)) | (apply x_condS; (· simp only [go_sem, *, List.length_append, List.length_cons, List.length_nil]; try rfl); all_goals (intro hb; try simp only [Bool.not_eq_true', Bool.not_eq_false'] at hb)) | fail
  refine x_gen [1000000, 1, 2, 4, 6, 7, 8, 43, 45] ?_
  intro env1 hA
  simp only [agreeL, go_sem] at hA
  obtain ⟨q0, q1, q2, q4, q6, q7, q8, q43, q45⟩ := hA
  clear k0 k1 k2 p1 p2 p8
  have k3 := Hk3.out
  have k4 := Hk4.out
  have k5 := Hk5.out
  have kl2 := Hkl.out
  repeat' first | apply x_seq | apply x_skip | apply x_block | apply x_exit | apply x_ret | apply x_ops_nil | apply p_blk | apply p_exit_it | apply p_exit_hit | apply p_ret_it | apply p_ret_blk | apply p_panic_it | apply p_panic_blk | apply p_end | (apply p_exit_miss; (· rfl)) | (apply x_region; simp only [List.toList_toArray]) | (apply x_step0; (· rfl); (· simp only [go_sem, *, List.length_append, List.length_cons, List.length_nil]; try rfl); (· rfl); simp only [putA]) | (apply ac_ret; simp only [putA]) | apply ac_panic | (apply x_callA []; (· simp only [go_sem, *, List.length_append, List.length_cons, List.length_nil]; try rfl); (· rfl); (· simp only [go_sem, *, List.length_append, List.length_cons, List.length_nil]; try rfl); (· rfl); (iterate 2 (· simp only [go_sem, *, List.length_append, List.length_cons, List.length_nil]; try rfl)); (first | (apply s1; (· simp only [go_sem, *, List.length_append, List.length_cons, List.length_nil]; try rfl)) | (apply s2; (· simp only [go_sem, *, List.length_append, List.length_cons, List.length_nil]; try rfl)) | apply s6); simp only [afterCall, putA]) | (apply x_panic; (· simp only [go_sem, *, List.length_append, List.length_cons, List.length_nil]; try rfl); (· rfl); (· simp only [go_sem, *, List.length_append, List.length_cons, List.length_nil]; try rfl)) | (apply x_step; (iterate 2 (· simp only [go_sem, *, List.length_append, List.length_cons, List.length_nil]; try rfl)); (· rfl); simp only [putA]) | (apply x_unwanted; (· simp only [go_sem, *, List.length_append, List.length_cons, List.length_nil]; try rfl); (· rfl); simp only [putA]) | (apply x_condT; (· simp only [go_sem, *, List.length_append, List.length_cons, List.length_nil]; try rfl)) | (apply x_condF; (· simp only [go_sem, *, List.length_append, List.length_cons, List.length_nil]; try rfl)) | (apply x_guardS; (· rfl); (fail_if_success (focus (show _ = some true; (· simp only [go_sem, *, List.length_append, List.length_cons, List.length_nil]; try rfl)))); (· simp only [go_sem, *, List.length_append, List.length_cons, List.length_nil]; try rfl); all_goals (intro hb; try simp only [Bool.not_eq_true', Bool.not_eq_false'] at hb)) | (apply x_condS; (· simp only [go_sem, *, List.length_append, List.length_cons, List.length_nil]; try rfl); all_goals (intro hb; try simp only [Bool.not_eq_true', Bool.not_eq_false'] at hb)) | fail
  refine x_gen [1000000, 9] ?_
  intro env2 hA
  simp only [agreeL, go_sem] at hA
  obtain ⟨r0, r9⟩ := hA
  clear k3 k4 k5 kl2
  have g0 := fT0
  have g1 := fT1
  have g2 := fT2
  have g3 := fT3
  have g4 := fT4
  repeat' first | refine st ?_ | (refine ca ?_; first | (apply s3; (· simp only [go_sem, *]; try rfl)) | apply s5 | apply s6 | apply s7) | (refine br ?_ ?_; all_goals (intro hb; try simp only [Bool.not_eq_true', Bool.not_eq_false'] at hb)) | fail
  refine x_gen [1000000, 9, 10] ?_
  intro env3 hA
  simp only [agreeL, go_sem] at hA
  obtain ⟨u0, u9, u10⟩ := hA
  clear g0 g1 g2 g3 g4
  have g0 := fN0
  have g1 := fN1
  have g2 := fN2
  have g3 := fN3
  have g4 := fN4
  have g5 := fN5
  have g6 := fN6
  have g7 := fN7
  have g8 := fN8
  have g9 := fN9
  have g10 := fN10
  have g11 := fN11
  repeat' first | refine st ?_ | (refine ca ?_; first | (apply s2; (· simp only [go_sem, *]; try rfl))) | (refine br ?_ ?_; all_goals (intro hb; try simp only [Bool.not_eq_true', Bool.not_eq_false'] at hb)) | fail
  refine x_gen [1000000, 9, 10, 11] ?_
  intro env4 hA
  simp only [agreeL, go_sem] at hA
  obtain ⟨v0, v9, v10, v11⟩ := hA
  clear g0 g1 g2 g3 g4 g5 g6 g7 g8 g9 g10 g11
  have g0 := fP0
  have g1 := fP1
  have g2 := fP2
  have g3 := fP3
  repeat' first | refine st ?_ | (refine ca ?_; first | apply s7 | (apply s4; (· simp only [go_sem, *]; try rfl))) | (refine br ?_ ?_; all_goals (intro hb; try simp only [Bool.not_eq_true', Bool.not_eq_false'] at hb)) | fail
  refine x_gen [1000000, 9, 10, 11, 13, 15, 17, 19, 148] ?_
  intro env5 hA
  simp only [agreeL, go_sem] at hA
  obtain ⟨z0, z9, z10, z11, z13, z15, z17, z19, z148⟩ := hA
  clear g0 g1 g2 g3
  have hwo := Hwo.out
  repeat' first | refine st ?_ | (refine ca ?_; first | apply hwo) | (refine br ?_ ?_; all_goals (intro hb; try simp only [Bool.not_eq_true', Bool.not_eq_false'] at hb)) | fail
  (apply f_ret; iterate 7 (· simp only [go_sem, *, Tryz.results8]; try rfl))
  exact h
end Go.Proofs.YtfnnjkbhmoomjaaGreatDoor
namespace Go.Proofs.YtfnnjkbhmoomjaaGreatDoor
open Go Go.Fen
set_option linter.unusedSimpArgs false
set_option linter.unusedVariables false
attribute [local irreducible] RunX WP ACall AnyP OpA ProtL afterCall afterOp
set_option maxRecDepth 8000
namespace OscKnown
theorem contract (H : Type) (enc : TypeId × Value → H) (W : World) (base : Nat) (args : Array Value) (ds gs : List (DataW H)) (before : List MemPlace)
    (hval : ∀ (j : Nat) t v, Tryz.f8.params[j]? = some t → args[j]? = some v → Value.okWide Tryz.prog W .any base t v)
    (hW : DataW.Whole enc Tryz.prog Tryz.f8.params.toList Rows.oscKnownSpec.vars false W args.toList ds gs before) (hL : laidMetH Tryz.prog seatLaid W) :
    Calls Tryz.prog 8 args W fun e W' => ∃ v, e = .returned v ∧ Rows.oscKnownSpec.post enc Tryz.prog Tryz.f8 false true false false W args v W' := by
  refine law_close (n := 20) (tb := 4) [] laidOut ?_ (by rw [Tryz.params8]; kernel_rfl) (by kernel_rfl) un_4 rfl ?_ hW hval ?_
  · rw [Tryz.params8]
    have : ([].all fun t => Tryz.prog.readableRec t && decide (t < Tryz.prog.types.size)) = true := by kernel_rfl
    intro t ht
    simpa using List.all_eq_true.1 this t (by simpa using ht)
  · intro h
    rw [Tryz.params8] at h
    match ds, h with
    | [], _ => rfl
  · intro avs ha
    have e1 := ArgsH.nil' ha
    rw [e1]
    exact knownLaw W (parse_of hL) (print_of hL) [] _ rfl
def wit : Array Value := #[]
set_option maxRecDepth 100000 in
theorem lifted (os : Os) (started : os.Started) (H : Type) (enc : TypeId × Value → H) :
    ReturnsInHanded {} Tryz.checked os 8 .any (fun w args => (Rows.oscKnownSpec.pre enc Tryz.prog Tryz.f8 Rows.oscKnownRow.domain false w args ∧ laidMetH Tryz.prog seatLaid w) ∧ sizedMet enc Tryz.prog Tryz.f8 (OpenSpec.ofChange Rows.oscKnownSpec) false w args)
      (Rows.oscKnownSpec.post enc Tryz.prog Tryz.f8 false true false false) := by
  refine returnsInHanded_of_change_and (C := Tryz.checked) (X := fun w _ => laidMetH Tryz.prog seatLaid w) (fun _ _ _ hh h => h.of_heap hh) own started (by kernel_rfl) Tryz.func8
    (ChangeSpec.witness_shaped (enc := enc) (C := Tryz.checked) (os := os) (X := fun w _ => laidMetH Tryz.prog seatLaid w) false (World.laidAll Tryz.prog os seatLaid) wit 8 (World.laidAll_os _ _ _)
      (World.shaped_of_ZipB (by kernel_rfl) (by kernel_rfl)) (by kernel_rfl) (by kernel_rfl) (by kernel_rfl)
      (by rw [MakeChecks.laidMetH_plain _ _ _ (by kernel_rfl)]; exact laidMet_laidAll _ (by kernel_rfl) (by kernel_rfl))) ?_
  intro W base args ds gs before hval hW _ _ hL _
  exact contract H enc W base args ds gs before hval hW hL
theorem said : Rows.OscKnownSaid :=
  OpenClaim.holds_of_wide 8 Tryz.f8 rfl rfl rfl rfl rfl rfl rfl ⟨rfl, rfl, rfl, rfl, rfl⟩ rfl rfl rfl rfl rfl (by kernel_rfl) Tryz.func8 (by kernel_rfl)
    (of_decide_eq_true (by kernel_rfl)) (by unfold Func.isWrapper; first | (rw [if_pos (by decide +kernel)]; kernel_rfl) | (rw [if_neg (by decide +kernel)]; exact ⟨rfl, rfl⟩))
    (fun os started H enc _ => lifted os started H enc)
theorem plainF (f : FuncId) (fn : Func) (hf : Tryz.pinned.checked.prog.funcNamed "fenestra/fenestralaw08.OscKnown" = some f) (hfn : Tryz.pinned.checked.prog.funcs[f]? = some fn) :
    true = Tryz.pinned.checked.prog.looks [] ∧ ∀ (j : Nat) t, fn.params[j]? = some t → Tryz.pinned.checked.prog.wantsStandIn t = false := by
  obtain rfl : f = 8 := Option.some.inj ((show Tryz.prog.funcNamed "fenestra/fenestralaw08.OscKnown" = some 8 by kernel_rfl).symm.trans hf) |>.symm
  obtain rfl : fn = Tryz.f8 := (Option.some.inj (Tryz.func8.symm.trans hfn)).symm
  refine ⟨by kernel_rfl, fun j t ht => ?_⟩
  rw [Tryz.params8] at ht
  have hm : t ∈ [] := by simpa using Array.mem_of_getElem? ht
  have hall : ([].all fun u => !Tryz.prog.wantsStandIn u) = true := by kernel_rfl
  exact (show Tryz.prog.wantsStandIn t = false by simpa using List.all_eq_true.1 hall t hm)
theorem card : Rows.OscKnownCardSaid :=
  Claim7.holds_tied_plain_at .later [] _ _ _ _ said (fun _ h => by cases h) (by kernel_rfl) (fun _ h => by cases h) oscKnown_row_tie rfl ⟨rfl, rfl⟩ (by kernel_rfl) rfl plainF (by kernel_rfl)
end OscKnown
end Go.Proofs.YtfnnjkbhmoomjaaGreatDoor
