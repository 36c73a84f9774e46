/- YtecgddmmdgccfaaGreatDoorWalk2. Texts of the proof of a law about texts: a layer of abstract values above the worlds, the types, the walks of the functions that the law reaches, the law and its card. Own work of an AI agent. -/
import Derived.Test.YtecgddmmdgccfaaGreatDoorWalk1
import Derived.Test.YtecgddmmdgccfaaGreatDoorCards
import Derived.Test.YtecgddmmdgccfaaGreatDoorTie
import Derived.ProofKit
import Derived.OpenShut
import Derived.LaidMore
import Derived.Lay
import Derived.SevenTiedAt
import Derived.Stop.Joined
import Derived.Test.YtecgddmmdgccfaaGreatDoorCore2
set_option linter.all false
set_option linter.unusedVariables false
set_option linter.unusedSimpArgs false
namespace Go.Proofs.YtecgddmmdgccfaaGreatDoor
open Go Go.Fen
set_option linter.unusedSimpArgs false
set_option linter.unusedVariables false
attribute [local irreducible] RunX WP ACall AnyP OpA ProtL afterCall afterOp
set_option maxRecDepth 8000
open Go.ChangeShapes Go.WideShapes Go.ChangeAt Go.RowKit Go.Fen.Ex
theorem own : ownKnob Tryz.prog.godebug = none := by kernel_rfl
theorem laidOut : laidOutB Tryz.prog = true := by kernel_rfl
theorem laid_mem {P : Program} {W : World} {nm : String} {d : DataW Unit} : ∀ {l : List (String × DataW Unit)} {ps : List MemPlace}, DataW.LaidVars P W l ps → (nm, d) ∈ l →
    ∃ g t cs fuel p, P.globalNamed nm = some g ∧ (P.globals[g]?).map (·.type) = some t ∧ W.var? P nm = some cs ∧ DataW.trod (fun _ => ()) P W 0 (fun _ => true) false fuel t cs.toList = some (d, p) := by
  intro l
  induction l with
  | nil => intro ps _ h; cases h
  | cons x l ih =>
    intro ps h hm
    obtain ⟨nm', d'⟩ := x
    obtain ⟨g, t, cs, fuel, p, q, h1, h2, h3, h4, h5, _⟩ := h
    rcases List.mem_cons.1 hm with e | hm
    · cases e; exact ⟨g, t, cs, fuel, p, h1, h2, h3, h4⟩
    · exact ih h5 hm
def seatLaid : List (String × DataW Unit) := [("fenestra/sets.signs", Rows.laid_fenestra_sets_signs), ("math/bits.deBruijn32tab", Rows.laid_math_bits_deBruijn32tab), ("math/bits.deBruijn64tab", Rows.laid_math_bits_deBruijn64tab), ("internal/strconv.uint64pow10", Rows.laid_internal_strconv_uint64pow10), ("unicode/utf8.acceptRanges", Rows.laid_unicode_utf8_acceptRanges), ("strconv.ErrRange", Rows.laid_strconv_ErrRange), ("strconv.ErrSyntax", Rows.laid_strconv_ErrSyntax), ("fenestra/color.named", Rows.laid_fenestra_color_named), ("fenestra/sgr.attrs", Rows.laid_fenestra_sgr_attrs), ("fenestra/width.marks", Rows.laid_fenestra_width_marks), ("fenestra/width.wides", Rows.laid_fenestra_width_wides), ("unicode/utf8.first", Rows.laid_unicode_utf8_first)]
theorem gl_row {W : World} {nm : String} {g : Nat} {cs : Array Value} (hg : Tryz.prog.globalNamed nm = some g) (h : W.var? Tryz.prog nm = some cs) (hall : cs.toList.all Value.oneCell' = true) : gl W g = .pro (cs.toList.map leafV) := by
  unfold World.var? at h
  rw [hg] at h
  simp only [Option.bind_some] at h
  unfold gl
  split at h
  · next c T fz hh =>
    cases h
    rw [hh]
    simp only [hall, if_true]
  · cases h
theorem lay0 {W : World} (h : laidMetH Tryz.prog seatLaid W) : GT 0 = gl W 0 := by
  rw [MakeChecks.laidMetH_plain _ _ _ (by kernel_rfl)] at h
  obtain ⟨ps, hl, _⟩ := h
  obtain ⟨g, t, cs, fuel, p, h1, h2, h3, h4⟩ := laid_mem (nm := "fenestra/width.marks") (d := Rows.laid_fenestra_width_marks) hl (by simp [seatLaid])
  have hg : Tryz.prog.globalNamed "fenestra/width.marks" = some 0 := by kernel_rfl
  obtain rfl := Option.some.inj (hg.symm.trans h1)
  obtain rfl := Option.some.inj ((show (Tryz.prog.globals[0]?).map (·.type) = some 250 by kernel_rfl).symm.trans h2)
  have h5 := trod_lits fuel 5 250 (Sk.rep (.cons (.int .i64) (.cons (.int .i64) .nil)) 11) _ _ (by kernel_rfl) rfl h4 (fuel + 5) (by omega)
  rw [gl_row hg h3 (by rw [← h5]; rfl), ← h5]
  rfl
theorem lay1 {W : World} (h : laidMetH Tryz.prog seatLaid W) : GT 1 = gl W 1 := by
  rw [MakeChecks.laidMetH_plain _ _ _ (by kernel_rfl)] at h
  obtain ⟨ps, hl, _⟩ := h
  obtain ⟨g, t, cs, fuel, p, h1, h2, h3, h4⟩ := laid_mem (nm := "fenestra/width.wides") (d := Rows.laid_fenestra_width_wides) hl (by simp [seatLaid])
  have hg : Tryz.prog.globalNamed "fenestra/width.wides" = some 1 := by kernel_rfl
  obtain rfl := Option.some.inj (hg.symm.trans h1)
  obtain rfl := Option.some.inj ((show (Tryz.prog.globals[1]?).map (·.type) = some 252 by kernel_rfl).symm.trans h2)
  have h5 := trod_lits fuel 5 252 (Sk.rep (.cons (.int .i64) (.cons (.int .i64) .nil)) 13) _ _ (by kernel_rfl) rfl h4 (fuel + 5) (by omega)
  rw [gl_row hg h3 (by rw [← h5]; rfl), ← h5]
  rfl
theorem lay2 {W : World} (h : laidMetH Tryz.prog seatLaid W) : GT 2 = gl W 2 := by
  rw [MakeChecks.laidMetH_plain _ _ _ (by kernel_rfl)] at h
  obtain ⟨ps, hl, _⟩ := h
  obtain ⟨g, t, cs, fuel, p, h1, h2, h3, h4⟩ := laid_mem (nm := "fenestra/sets.signs") (d := Rows.laid_fenestra_sets_signs) hl (by simp [seatLaid])
  have hg : Tryz.prog.globalNamed "fenestra/sets.signs" = some 2 := by kernel_rfl
  obtain rfl := Option.some.inj (hg.symm.trans h1)
  obtain rfl := Option.some.inj ((show (Tryz.prog.globals[2]?).map (·.type) = some 412 by kernel_rfl).symm.trans h2)
  have h5 := trod_lits fuel 5 412 (Sk.rep (.int .i64) 32) _ _ (by kernel_rfl) rfl h4 (fuel + 5) (by omega)
  rw [gl_row hg h3 (by rw [← h5]; rfl), ← h5]
  rfl
theorem lay3 {W : World} (h : laidMetH Tryz.prog seatLaid W) : GT 3 = gl W 3 := by
  rw [MakeChecks.laidMetH_plain _ _ _ (by kernel_rfl)] at h
  obtain ⟨ps, hl, _⟩ := h
  obtain ⟨g, t, cs, fuel, p, h1, h2, h3, h4⟩ := laid_mem (nm := "fenestra/sgr.attrs") (d := Rows.laid_fenestra_sgr_attrs) hl (by simp [seatLaid])
  have hg : Tryz.prog.globalNamed "fenestra/sgr.attrs" = some 3 := by kernel_rfl
  obtain rfl := Option.some.inj (hg.symm.trans h1)
  obtain rfl := Option.some.inj ((show (Tryz.prog.globals[3]?).map (·.type) = some 450 by kernel_rfl).symm.trans h2)
  have h5 := trod_lits fuel 5 450 (Sk.rep (.cons (.int .i64) (.cons (.int .i64) (.cons (.int .i64) .nil))) 8) _ _ (by kernel_rfl) rfl h4 (fuel + 5) (by omega)
  rw [gl_row hg h3 (by rw [← h5]; rfl), ← h5]
  rfl
theorem lay4 {W : World} (h : laidMetH Tryz.prog seatLaid W) : GT 7 = gl W 7 := by
  rw [MakeChecks.laidMetH_plain _ _ _ (by kernel_rfl)] at h
  obtain ⟨ps, hl, _⟩ := h
  obtain ⟨g, t, cs, fuel, p, h1, h2, h3, h4⟩ := laid_mem (nm := "fenestra/color.named") (d := Rows.laid_fenestra_color_named) hl (by simp [seatLaid])
  have hg : Tryz.prog.globalNamed "fenestra/color.named" = some 7 := by kernel_rfl
  obtain rfl := Option.some.inj (hg.symm.trans h1)
  obtain rfl := Option.some.inj ((show (Tryz.prog.globals[7]?).map (·.type) = some 488 by kernel_rfl).symm.trans h2)
  have h5 := trod_lits fuel 5 488 (Sk.rep (.int .i64) 16) _ _ (by kernel_rfl) rfl h4 (fuel + 5) (by omega)
  rw [gl_row hg h3 (by rw [← h5]; rfl), ← h5]
  rfl
theorem lay5 {W : World} (h : laidMetH Tryz.prog seatLaid W) : GT 8 = gl W 8 := by
  rw [MakeChecks.laidMetH_plain _ _ _ (by kernel_rfl)] at h
  obtain ⟨ps, hl, _⟩ := h
  obtain ⟨g, t, cs, fuel, p, h1, h2, h3, h4⟩ := laid_mem (nm := "internal/strconv.uint64pow10") (d := Rows.laid_internal_strconv_uint64pow10) hl (by simp [seatLaid])
  have hg : Tryz.prog.globalNamed "internal/strconv.uint64pow10" = some 8 := by kernel_rfl
  obtain rfl := Option.some.inj (hg.symm.trans h1)
  obtain rfl := Option.some.inj ((show (Tryz.prog.globals[8]?).map (·.type) = some 489 by kernel_rfl).symm.trans h2)
  have h5 := trod_lits fuel 5 489 (Sk.rep (.int .u64) 20) _ _ (by kernel_rfl) rfl h4 (fuel + 5) (by omega)
  rw [gl_row hg h3 (by rw [← h5]; rfl), ← h5]
  rfl
theorem lay6 {W : World} (h : laidMetH Tryz.prog seatLaid W) : GT 10 = gl W 10 := by
  rw [MakeChecks.laidMetH_plain _ _ _ (by kernel_rfl)] at h
  obtain ⟨ps, hl, _⟩ := h
  obtain ⟨g, t, cs, fuel, p, h1, h2, h3, h4⟩ := laid_mem (nm := "unicode/utf8.acceptRanges") (d := Rows.laid_unicode_utf8_acceptRanges) hl (by simp [seatLaid])
  have hg : Tryz.prog.globalNamed "unicode/utf8.acceptRanges" = some 10 := by kernel_rfl
  obtain rfl := Option.some.inj (hg.symm.trans h1)
  obtain rfl := Option.some.inj ((show (Tryz.prog.globals[10]?).map (·.type) = some 499 by kernel_rfl).symm.trans h2)
  have h5 := trod_lits fuel 5 499 (Sk.rep (.cons (.int .u8) (.cons (.int .u8) .nil)) 16) _ _ (by kernel_rfl) rfl h4 (fuel + 5) (by omega)
  rw [gl_row hg h3 (by rw [← h5]; rfl), ← h5]
  rfl
theorem lay7 {W : World} (h : laidMetH Tryz.prog seatLaid W) : GT 11 = gl W 11 := by
  rw [MakeChecks.laidMetH_plain _ _ _ (by kernel_rfl)] at h
  obtain ⟨ps, hl, _⟩ := h
  obtain ⟨g, t, cs, fuel, p, h1, h2, h3, h4⟩ := laid_mem (nm := "math/bits.deBruijn32tab") (d := Rows.laid_math_bits_deBruijn32tab) hl (by simp [seatLaid])
  have hg : Tryz.prog.globalNamed "math/bits.deBruijn32tab" = some 11 := by kernel_rfl
  obtain rfl := Option.some.inj (hg.symm.trans h1)
  obtain rfl := Option.some.inj ((show (Tryz.prog.globals[11]?).map (·.type) = some 505 by kernel_rfl).symm.trans h2)
  have h5 := trod_lits fuel 5 505 (Sk.rep (.int .u8) 32) _ _ (by kernel_rfl) rfl h4 (fuel + 5) (by omega)
  rw [gl_row hg h3 (by rw [← h5]; rfl), ← h5]
  rfl
theorem lay8 {W : World} (h : laidMetH Tryz.prog seatLaid W) : GT 12 = gl W 12 := by
  rw [MakeChecks.laidMetH_plain _ _ _ (by kernel_rfl)] at h
  obtain ⟨ps, hl, _⟩ := h
  obtain ⟨g, t, cs, fuel, p, h1, h2, h3, h4⟩ := laid_mem (nm := "math/bits.deBruijn64tab") (d := Rows.laid_math_bits_deBruijn64tab) hl (by simp [seatLaid])
  have hg : Tryz.prog.globalNamed "math/bits.deBruijn64tab" = some 12 := by kernel_rfl
  obtain rfl := Option.some.inj (hg.symm.trans h1)
  obtain rfl := Option.some.inj ((show (Tryz.prog.globals[12]?).map (·.type) = some 506 by kernel_rfl).symm.trans h2)
  have h5 := trod_lits fuel 5 506 (Sk.rep (.int .u8) 64) _ _ (by kernel_rfl) rfl h4 (fuel + 5) (by omega)
  rw [gl_row hg h3 (by rw [← h5]; rfl), ← h5]
  rfl
theorem gt_laid {W : World} (h : laidMetH Tryz.prog seatLaid W) : GOk GT W := by
  intro g
  unfold GT
  split
  · exact .inr (lay0 h)
  · exact .inr (lay1 h)
  · exact .inr (lay2 h)
  · exact .inr (lay3 h)
  · exact .inr (lay4 h)
  · exact .inr (lay5 h)
  · exact .inr (lay6 h)
  · exact .inr (lay7 h)
  · exact .inr (lay8 h)
  · exact .inl rfl
end Go.Proofs.YtecgddmmdgccfaaGreatDoor
