/- YthdbijpefkapnaaGreatDoorWalk4. Texts of the proof of a law about texts: a layer of abstract values above the worlds, the types, the walks of the functions that the law reaches, the law and its card. Own work of an AI agent. -/
import Derived.Test.YthdbijpefkapnaaGreatDoorWalk3
import Derived.Test.YthdbijpefkapnaaGreatDoorCore2
set_option linter.all false
set_option linter.unusedVariables false
set_option linter.unusedSimpArgs false
namespace Go.Proofs.YthdbijpefkapnaaGreatDoor
open Go Go.Fen
set_option linter.unusedSimpArgs false
set_option linter.unusedVariables false
attribute [local irreducible] RunX WP ACall AnyP OpA ProtL afterCall afterOp
set_option maxRecDepth 8000
theorem lastR_split {l : List (List Int)} (h : okRow l = true) : ∃ pre q n, lastR l = pre ++ [q ++ [n]] ∧ pre.length ≤ 15 ∧ q.length ≤ 5 ∧ (-1 ≤ n ∧ n ≤ 9999) ∧ (pre.any badS = false) ∧ q.any badN = false := by
 have hb : (lastR l).any badS = false ∧ (lastR l).length ≤ 16 ∧ lastR l ≠ [] := by
  unfold lastR
  split
  ·exact ⟨by decide, by decide, by decide⟩
  ·next hn =>
   unfold okRow at h
   simp only [Bool.and_eq_true, decide_eq_true_eq, Bool.not_eq_true'] at h
   exact ⟨h.2.2, h.1, hn⟩
 obtain ⟨h1, h2, h3⟩ := hb
 have hsp := List.dropLast_concat_getLast h3
 generalize (lastR l).dropLast = pre at hsp
 generalize (lastR l).getLast h3 = s at hsp
 rw [← hsp] at h1 h2
 simp only [List.any_append, List.any_cons, List.any_nil, Bool.or_false, Bool.or_eq_false_iff, List.length_append, List.length_cons, List.length_nil] at h1 h2
 have hs := h1.2
 unfold badS at hs
 simp only [Bool.or_eq_false_iff, beq_eq_false_iff_ne, decide_eq_false_iff_not] at hs
 have hne : s ≠ [] := by rintro rfl; exact hs.1 rfl
 have hsq := List.dropLast_concat_getLast hne
 generalize s.dropLast = q at hsq
 generalize s.getLast hne = n at hsq
 subst hsq
 simp only [List.any_append, List.any_cons, List.any_nil, Bool.or_false, Bool.or_eq_false_iff, List.length_append, List.length_cons, List.length_nil] at hs
 have hn := hs.2.2.2
 unfold badN at hn
 simp only [Bool.or_eq_false_iff, decide_eq_false_iff_not] at hn
 exact ⟨pre, q, n, hsp.symm, by omega, by omega, ⟨by omega, by omega⟩, h1.1, hs.2.2.1⟩
theorem getLastD_append1 {α : Type} (l : List α) (x d : α) : (l ++ [x]).getLastD d = x := by simp [List.getLastD_eq_getLast?]
theorem stepP_split {l pre : List (List Int)} {q : List Int} {n : Int} {c : Nat} (h : lastR l = pre ++ [q ++ [n]]) : stepP l c =
  if c = 59 then (if pre.length < 15 then (pre ++ [q ++ [n], [-1]], 0) else ([], 3))
  else if c = 58 then (if q.length < 5 then (pre ++ [q ++ [n, -1]], 0) else ([], 3))
  else if 48 ≤ c ∧ c ≤ 57 then (pre ++ [q ++ [min (max 0 n * 10 + ((c : Int) - 48)) 9999]], 0)
  else ([], 6) := by
 unfold stepP
 rw [h, getLastD_append1, getLastD_append1, List.dropLast_concat, List.dropLast_concat]
 have e1 : (pre.length + 1 < 16) = (pre.length < 15) := by rw [eq_iff_iff]; omega
 have e2 : (q.length + 1 < 6) = (q.length < 5) := by rw [eq_iff_iff]; omega
 simp only [List.length_append, List.length_cons, List.length_nil, Nat.zero_add, e1, e2, List.append_assoc, List.cons_append, List.nil_append]
theorem stepP_ok {l : List (List Int)} {c : Nat} (h : okRow l = true) (h0 : (stepP l c).2 = 0) : okRow (stepP l c).1 = true := by
 obtain ⟨pre, q, n, hl, h1, h2, h3, h4, h5⟩ := lastR_split h
 rw [stepP_split hl] at h0 ⊢
 have hb : badS (q ++ [n]) = false := by
  unfold badS
  simp only [Bool.or_eq_false_iff, beq_eq_false_iff_ne, decide_eq_false_iff_not, List.any_append, List.any_cons, List.any_nil, Bool.or_false, List.length_append, List.length_cons, List.length_nil]
  refine ⟨by omega, by omega, h5, ?_⟩
  unfold badN
  simp only [Bool.or_eq_false_iff, decide_eq_false_iff_not]
  omega
 split at h0
 ·next hc =>
  rw [if_pos hc]
  split at h0
  ·next hp =>
   rw [if_pos hp]
   unfold okRow
   simp only [Bool.and_eq_true, decide_eq_true_eq, Bool.not_eq_true', List.any_append, List.any_cons, List.any_nil, Bool.or_false, List.length_append, List.length_cons, List.length_nil, h4, hb, Bool.false_or]
   refine ⟨by omega, ?_, by decide⟩
   rw [beq_eq_false_iff_ne]
   intro e
   have := congrArg List.length e
   simp at this
  ·cases h0
 ·next hc =>
  rw [if_neg hc]
  split at h0
  ·next hc =>
   rw [if_pos hc]
   split at h0
   ·next hp =>
    rw [if_pos hp]
    have hb2 : badS (q ++ [n, -1]) = false := by
     unfold badS at hb ⊢
     simp only [Bool.or_eq_false_iff, beq_eq_false_iff_ne, decide_eq_false_iff_not, List.any_append, List.any_cons, List.any_nil, Bool.or_false, List.length_append, List.length_cons, List.length_nil] at hb ⊢
     exact ⟨by omega, by omega, h5, hb.2.2.2, by decide⟩
    unfold okRow
    simp only [Bool.and_eq_true, decide_eq_true_eq, Bool.not_eq_true', List.any_append, List.any_cons, List.any_nil, Bool.or_false, List.length_append, List.length_cons, List.length_nil, h4, hb2, Bool.false_or]
    refine ⟨by omega, ?_, trivial⟩
    rw [beq_eq_false_iff_ne]
    intro e
    have hp : pre = [] := by
     have := congrArg List.length e
     simp at this
     exact this
    subst hp
    simp at e
    have := congrArg List.length e
    simp at this
   ·cases h0
  ·next hc =>
   rw [if_neg hc]
   split at h0
   ·next hc2 =>
    rw [if_pos hc2]
    have hv : 0 ≤ min (max 0 n * 10 + ((c : Int) - 48)) 9999 ∧ min (max 0 n * 10 + ((c : Int) - 48)) 9999 ≤ 9999 := by omega
    generalize min (max 0 n * 10 + ((c : Int) - 48)) 9999 = v at hv
    have hb2 : badS (q ++ [v]) = false := by
     unfold badS at hb ⊢
     simp only [Bool.or_eq_false_iff, beq_eq_false_iff_ne, decide_eq_false_iff_not, List.any_append, List.any_cons, List.any_nil, Bool.or_false, List.length_append, List.length_cons, List.length_nil] at hb ⊢
     refine ⟨by omega, by omega, h5, ?_⟩
     unfold badN
     simp only [Bool.or_eq_false_iff, decide_eq_false_iff_not]
     omega
    unfold okRow
    simp only [Bool.and_eq_true, decide_eq_true_eq, Bool.not_eq_true', List.any_append, List.any_cons, List.any_nil, Bool.or_false, List.length_append, List.length_cons, List.length_nil, h4, hb2, Bool.false_or]
    refine ⟨by omega, ?_, trivial⟩
    rw [beq_eq_false_iff_ne]
    intro e
    have hp : pre = [] := by
     have := congrArg List.length e
     simp at this
     exact this
    subst hp
    simp at e
    have hq : q = [] := by
     have := congrArg List.length e
     simp at this
     exact this
    subst hq
    simp at e
    omega
   ·cases h0
theorem PsI.beg {n : Nat} (h : n ≤ 14) : PsI (begS n) := ⟨h, rfl, by simp [begS], Nat.zero_lt_succ _, Nat.zero_lt_succ _, rfl, Nat.zero_le _, Nat.zero_le _⟩
theorem PsI.spo {n : Nat} (h : n ≤ 14) : PsI (spoS n) := ⟨h, rfl, by simp [spoS], Nat.zero_lt_succ _, Nat.zero_lt_succ _, rfl, Nat.zero_le _, Nat.zero_le _⟩
theorem PsI.at {p : Ps} (h : PsI p) {n : Nat} (hn : n ≤ 14) : PsI { p with st := n } := ⟨hn, h.utf, h.byt, h.pv, h.fn, h.pars, h.inter, h.text⟩
theorem PsI.sign {p : Ps} (h : PsI p) (b : Nat) : PsI (signS p b) := by
 unfold signS
 split
 ·exact .spo h.st
 ·next hc =>
  refine ⟨h.st, h.utf, h.byt, h.pv, h.fn, h.pars, ?_, h.text⟩
  have := h.inter
  simp only [List.length_append, List.length_cons, List.length_nil]
  rw [not_or] at hc
  omega
theorem PsI.dig {p : Ps} (h : PsI p) (b : Nat) : PsI (digS p b) := by
 unfold digS
 split
 ·exact .spo h.st
 ·next hc =>
  rw [not_or] at hc
  exact ⟨h.st, h.utf, h.byt, h.pv, h.fn, stepP_ok h.pars (Classical.not_not.1 hc.1), h.inter, h.text⟩
theorem PsI.disp (p : Ps) (e : Ev) : PsI (dispS p e).1 := .beg (by decide)
theorem PsI.last {p : Ps} (h : PsI p) {b : Nat} (hb : b < 256) : PsI (lastS p b).1 := by
 unfold lastS
 split
 ·exact .disp _ _
 ·refine ⟨(by decide : 11 ≤ 14), h.utf, h.byt, h.pv, ?_, h.pars, h.inter, h.text⟩
  have := h.fn
  simp only
  split <;> assumption
theorem PsI.goes {p : Ps} (h : PsI p) {b : Nat} (hb : b < 256) : PsI (goesS p b).1 := by
 have key : ∀ n, n ≤ 14 → PsI (signS (begS n) b) := fun n hn => (PsI.beg hn).sign b
 have hs := h.st
 unfold goesS
 split
 ·exact h
 ·unfold escS
  repeat' split
  all_goals first | exact .beg (by decide) | exact key 2 (by decide)
 ·unfold signsS
  split
  ·exact h.sign b
  ·exact .disp _ _
 ·next e =>
  unfold entryS
  repeat' split
  ·exact key _ (by omega)
  ·exact (PsI.beg (by omega)).dig b
  ·exact ⟨by simp only [begS]; omega, rfl, by simp [begS], hb, Nat.zero_lt_succ _, rfl, Nat.zero_le _, Nat.zero_le _⟩
  ·exact h.last hb
 ·next e =>
  unfold entryS
  repeat' split
  ·exact key _ (by omega)
  ·exact (PsI.beg (by omega)).dig b
  ·exact ⟨by simp only [begS]; omega, rfl, by simp [begS], hb, Nat.zero_lt_succ _, rfl, Nat.zero_le _, Nat.zero_le _⟩
  ·exact h.last hb
 ·next e =>
  unfold paramsS
  repeat' split
  ·exact (h.at (by omega)).sign b
  ·exact h.dig b
  ·exact .spo hs
  ·exact h.last hb
 ·next e =>
  unfold paramsS
  repeat' split
  ·exact (h.at (by omega)).sign b
  ·exact h.dig b
  ·exact .spo hs
  ·exact h.last hb
 ·unfold intersS
  repeat' split
  ·exact h.sign b
  ·exact .spo hs
  ·exact h.last hb
 ·unfold intersS
  repeat' split
  ·exact h.sign b
  ·exact .spo hs
  ·exact h.last hb
 ·exact h
theorem PsI.ctl (b : Nat) : PsI (ctlS b).1 := by
 unfold ctlS
 repeat' split
 all_goals exact .beg (by decide)
theorem PsI.code {q : Ps × List Ev} (h : PsI q.1) (c : Nat) : PsI (codeS q c).1 := by
 unfold codeS
 split
 ·exact .ctl c
 ·split <;> exact h
theorem PsI.codes : ∀ {l : List Nat} {q : Ps × List Ev}, PsI q.1 → PsI (l.foldl codeS q).1
 | [], _, h => h
 | c :: l, _, h => PsI.codes (l := l) (h.code c)
theorem PsI.print {p : Ps} (h : PsI p) {b : Nat} (hb : b < 256) : PsI (printS p b).1 := by
 unfold printS
 refine PsI.codes ⟨Nat.zero_le _, stepU_right _ _, step_bytes h.byt hb, Nat.zero_lt_succ _, Nat.zero_lt_succ _, rfl, Nat.zero_le _, Nat.zero_le _⟩
theorem PsI.within {p : Ps} (h : PsI p) (b : Nat) : PsI (withinS p b).1 := by
 unfold withinS
 split
 ·exact .disp _ _
 ·split
  ·exact h
  ·split
   ·exact .spo h.st
   ·next hc =>
    refine ⟨h.st, h.utf, h.byt, h.pv, h.fn, h.pars, h.inter, ?_⟩
    have := h.text
    simp only [List.length_append, List.length_cons, List.length_nil]
    omega
theorem PsI.take1 {p : Ps} (h : PsI p) {b : Nat} (hb : b < 256) : PsI (take1 p b).1 := by
 have hs := h.st
 unfold Go.Proofs.YthdbijpefkapnaaGreatDoor.take1
 split
 ·exact h.print hb
 ·split
  ·exact .beg (by decide)
  ·split
   ·split
    ·next ht =>
     have : p.st ≠ 14 := by
      intro e
      rw [e] at ht
      exact absurd ht (by decide)
     exact h.at (by omega)
    ·exact .beg (by decide)
   ·split
    ·exact h.within b
    ·split
     ·exact (PsI.beg (by decide)).print hb
     ·split
      ·exact h
      ·split
       ·exact h
       ·exact h.goes hb
theorem PsI.take {p : Ps} (h : PsI p) {b : Nat} (hb : b < 256) : PsI (takeS p b).1 := by
 unfold takeS
 split
 ·unfold endS
  repeat' split
  ·exact (PsI.beg (by decide)).take1 hb
  ·exact .disp _ _
  ·exact .disp _ _
  ·exact .beg (by decide)
 ·exact h.take1 hb
def mcB (p : Ps) (b g : Nat) : Blk := .cells [.int .i64 p.st, .sval false (p.utf.map By), .int .u8 p.pv, .int .u8 p.fn, .sval false (p.pars.map PmV), .str p.inter, .str p.text, .bool p.bad, .sown b g g]
def evB (l : List Ev) : Blk := .arr 40 7 0 l.length (l.map Ev.av)
def mach (X : List Blk) (p : Ps) (l : List Ev) : List Blk := X ++ [mcB p (X.length + 1) l.length, evB l]
@[go_sem] theorem Ev.ltL (l : List Ev) (n : Nat) : ltL n (l.map Ev.av) = true := ltL_iff.2 fun x hx => by
 obtain ⟨y, _, rfl⟩ := List.mem_map.1 hx
 simp only [Ev.av, AV.lt, Go.Fen.ltL, PmV.ltL, Bool.and_self]
@[go_sem] theorem Ev.ok (l : List Ev) : okEls 7 (l.map Ev.av) = true := by
 unfold okEls; rw [List.all_eq_true]; intro x hx; obtain ⟨y, _, rfl⟩ := List.mem_map.1 hx; rfl
theorem mcB_lt (X : List Blk) (p : Ps) (g : Nat) : (mcB p (X.length + 1) g).ltB (X.length + 2) = true := by
 simp [mcB, Blk.ltB, Go.Fen.ltL, AV.lt, By.ltL, PmV.ltL]
theorem evB_lt (l : List Ev) (n : Nat) : (evB l).ltB n = true := by
 simp [evB, Blk.ltB, Ev.ltL]
theorem mach_len (X : List Blk) (p : Ps) (l : List Ev) : (mach X p l).length = X.length + 2 := by simp [mach]
theorem mach_outer {X : List Blk} {p q : Ps} {l k : List Ev} (h : OuterOk (mach X p l)) : OuterOk (mach X q k) := outer_two h (mcB_lt X q _) (evB_lt k _)
section
variable {P : Program} {w0 : World} {F : Func} {S0 S X L : List Blk} {R : AOut → List Blk → Prop} {ms vs : List AV} {env : Env} {B C : Blk}
theorem f_retM (h0 : env DS = .dfr ms) (h01 : leaveM ms S = some (X ++ B :: C :: L)) (h1 : resVs P env (X ++ B :: C :: L) F.results.toList = some []) (hl : X.length + 2 = S0.length) (hB : OuterOk (X ++ [B, C])) (h : R (.ret (.tup [])) (X ++ [B, C])) : FPost P F S0 R .ret env S := by
 have e : X ++ B :: C :: L = (X ++ [B, C]) ++ L := by simp
 rw [e] at h01 h1
 exact f_retO h0 h01 (by simp; omega) hB h1 rfl rfl h
theorem f_endM (h0 : env DS = .dfr ms) (h01 : leaveM ms S = some (X ++ B :: C :: L)) (h1 : resVs P env (X ++ B :: C :: L) F.results.toList = some []) (hl : X.length + 2 = S0.length) (hB : OuterOk (X ++ [B, C])) (h : R (.ret (.tup [])) (X ++ [B, C])) : FPost P F S0 R .normal env S :=
 f_retM h0 h01 h1 hl hB h
end
theorem x_boxM {P : Program} {w0 : World} {n0 N : Nat} {r : Option Nat} {Q : APost} {k : List TI} {env : Env} {S X : List Blk} {it : KI} {B C : Blk} {cs : List AV} {ty : Option TypeId} (t : Nat) (sl : List Nat) (hS : S = X ++ [B, C, .cells cs ty]) (hO : OuterOk (X ++ [B, C])) (hn : n0 = X.length + 2) (ht : env t = .own (X.length + 2) 0)
  (hds : (env DS).lt (X.length + 2) = true) (hsl : (sl.all fun u => (upd env t (.pro cs) u).lt (X.length + 2)) = true) (h : RunX P w0 n0 N r (.it it :: k) Q .normal (keepEnv sl (upd env t (.pro cs))) (X ++ [B, C])) : RunX P w0 n0 N r (.it it :: k) Q .normal env S := by
 have hl : (X ++ [B, C]).length = X.length + 2 := by simp
 have hS' : S = (X ++ [B, C]) ++ [.cells cs ty] := by rw [hS]; simp
 refine x_box (X ++ [B, C]) sl hS' hO (hn.trans hl.symm) (by rw [hl]; exact ht) (by rw [hl]; exact hds) (by rw [hl]; exact hsl) h
section
variable {P : Program} {F : Func} {S0 S X L : List Blk} {R : AOut → List Blk → Prop} {ms : List AV} {env : Env} {p q : Ps} {l k : List Ev}
theorem f_retQ (hO : OuterOk (mach X p l)) (h : R (.ret (.tup [])) (mach X q k)) (hl : X.length + 2 = S0.length) (h0 : env DS = .dfr ms) (h01 : leaveM ms S = some (X ++ mcB q (X.length + 1) k.length :: evB k :: L)) (h1 : resVs P env (X ++ mcB q (X.length + 1) k.length :: evB k :: L) F.results.toList = some []) : FPost P F S0 R .ret env S :=
 f_retM h0 h01 h1 hl (mach_outer hO) h
theorem f_endQ (hO : OuterOk (mach X p l)) (h : R (.ret (.tup [])) (mach X q k)) (hl : X.length + 2 = S0.length) (h0 : env DS = .dfr ms) (h01 : leaveM ms S = some (X ++ mcB q (X.length + 1) k.length :: evB k :: L)) (h1 : resVs P env (X ++ mcB q (X.length + 1) k.length :: evB k :: L) F.results.toList = some []) : FPost P F S0 R .normal env S :=
 f_retQ hO h hl h0 h01 h1
end
theorem soft_set {X : List Blk} {cs : List AV} {ty : Option TypeId} {E : Blk} {p : Ps} {l : List Ev} (h1 : Blk.cells (cs.map softV) ty = mcB p (X.length + 1) l.length) (h2 : E = evB l) {R : AOut → List Blk → Prop} {o : AOut} (h : R o (mach X p l)) :
  ∃ cs' ty', (X ++ [Blk.cells cs ty, E])[X.length]? = some (.cells cs' ty') ∧ R o ((X ++ [Blk.cells cs ty, E]).set X.length (.cells (cs'.map softV) ty')) := by
 subst h2
 refine ⟨cs, ty, by simp, ?_⟩
 rw [List.set_append_right _ _ (Nat.le_refl _), Nat.sub_self, List.set_cons_zero, h1]
 exact h
set_option maxHeartbeats 4000000 in
theorem sBegin (w0 : World) (X : List Blk) (p : Ps) (l : List Ev) (n : Nat) (R : Rt) (h : R (.ret (.tup [])) (mach X (begS n) l)) : ACall Tryz.prog w0 167 [.own X.length 0, .int .i64 n] (mach X p l) R := by
 refine ACall.softC X.length ?_
 have H := Lib.hid h
 clear h
 refine en Tryz.func167 rfl Tryz.ntmps167 fun hO => ?_
 have HO := Lib.hid hO
 clear hO
 unfold mach mcB
 repeat' first | refine st ?_ | (refine br ?_ ?_; all_goals (intro hb; try simp only [bnn] at hb)) | fail
 (apply f_endX; iterate 5 (· simp only [go_sem, *, Tryz.results167]; try rfl))
 ·exact outer_two HO.out (by simp [Blk.ltB, Go.Fen.ltL, AV.lt]) (evB_lt _ _)
 ·simp [mach]
 ·exact soft_set rfl rfl H.out
set_option maxHeartbeats 4000000 in
theorem sSpoil (w0 : World) (X : List Blk) (p : Ps) (l : List Ev) (R : Rt) (h : R (.ret (.tup [])) (mach X (spoS p.st) l)) : ACall Tryz.prog w0 215 [.own X.length 0] (mach X p l) R := by
 refine ACall.softC X.length ?_
 have H := Lib.hid h
 clear h
 refine en Tryz.func215 rfl Tryz.ntmps215 fun hO => ?_
 have HO := Lib.hid hO
 clear hO
 unfold mach mcB
 repeat' first | refine st ?_ | (refine br ?_ ?_; all_goals (intro hb; try simp only [bnn] at hb)) | fail
 (apply f_endX; iterate 5 (· simp only [go_sem, *, Tryz.results215]; try rfl))
 ·exact outer_two HO.out (by simp [Blk.ltB, Go.Fen.ltL, AV.lt]) (evB_lt _ _)
 ·simp [mach]
 ·exact soft_set rfl rfl H.out
set_option maxHeartbeats 4000000 in
theorem sTell (w0 : World) (X : List Blk) (p : Ps) (l : List Ev) (e : Ev) (hl : l.length ≤ 1000000) (R : Rt) (h : R (.ret (.tup [])) (mach X p (l ++ [e]))) : ACall Tryz.prog w0 170 [.own X.length 0, e.av] (mach X p l) R := by
 have H := Lib.hid h
 clear h
 have hb : (l.length + 1) * 80 ≤ 140737488355328 := by omega
 rw [show e.av = .agg [.int .i64 e.kind, .int .i64 e.code, .int .u8 e.priv, .int .u8 e.fin, .sval false (e.pars.map PmV), .str e.inter, .str e.text] from rfl]
 refine en Tryz.func170 rfl Tryz.ntmps170 fun hO => ?_
 have HO := Lib.hid hO
 clear hO hl
 unfold mach mcB evB
 repeat' first | refine st ?_ | (refine br ?_ ?_; all_goals (intro hb; try simp only [bnn] at hb)) | refine sd ?_ | refine sx ?_ | apply pl_nil | (apply c_end; (· decide +kernel)) | refine bd ?_ ?_ | fail
 apply f_endM
 ·(simp only [go_sem, *]; try rfl)
 ·(simp only [go_sem, *]; try rfl)
 ·(simp only [go_sem, *, Tryz.results170]; try rfl)
 ·simp
 ·exact outer_two HO.out (by simp [Blk.ltB, Go.Fen.ltL, AV.lt, By.ltL, PmV.ltL]) (by rw [ltB_arr, ltL_append, Ev.ltL]; simp [Go.Fen.ltL, AV.lt, PmV.ltL])
 ·have H1 := H.out
  simp only [mach, mcB, evB, List.length_append, List.length_cons, List.length_nil, List.map_append, List.map_cons, List.map_nil, Nat.zero_add] at H1
  exact H1
theorem dispS_len (p : Ps) (e : Ev) : (dispS p e).2.length ≤ 1 := by
 unfold dispS
 split <;> simp
set_option maxHeartbeats 4000000 in
theorem sDisp (w0 : World) (X : List Blk) (p : Ps) (l : List Ev) (e : Ev) (hl : l.length ≤ 1000000) (R : Rt) (h : R (.ret (.tup [])) (mach X (dispS p e).1 (l ++ (dispS p e).2))) : ACall Tryz.prog w0 214 [.own X.length 0, e.av] (mach X p l) R := by
 have htell := sTell w0 X p l e hl
 have hbeg := fun l => sBegin w0 X p l 0
 have hbe2 := sBegin w0 X p (l ++ [e]) 0
 unfold dispS at h
 rw [show e.av = .agg [.int .i64 e.kind, .int .i64 e.code, .int .u8 e.priv, .int .u8 e.fin, .sval false (e.pars.map PmV), .str e.inter, .str e.text] from rfl] at htell ⊢
 have H := Lib.hid h
 clear h hl
 refine en Tryz.func214 rfl Tryz.ntmps214 fun hO => ?_
 have HO := Lib.hid hO
 clear hO
 repeat' ((fail_if_success (apply x_stop 4 rfl)); first | refine st ?_ | (refine br ?_ ?_; all_goals (intro hb; try simp only [bnn] at hb)) | fail)
 refine x_box (mach X p l) (t := 3) [0, 3] rfl HO.out rfl (by (simp only [go_sem, *]; try rfl)) (by (simp only [go_sem, *]; try rfl)) ?_ ?_
 ·simp only [go_sem, *, mach_len]
 unfold mach mcB evB
 cases hb : p.bad
 ·have hb2 := hbe2
  simp only [mach, mcB, evB, hb] at htell hb2
  clear hbeg hbe2
  repeat' first | refine st ?_ | (refine ca ?_; first | apply htell | apply hb2) | (refine br ?_ ?_; all_goals (intro hb; try simp only [bnn] at hb)) | fail
  apply f_endM (L := [])
  ·(simp only [go_sem, *]; try rfl)
  ·(simp only [go_sem, *]; try rfl)
  ·(simp only [go_sem, *, Tryz.results214]; try rfl)
  ·simp
  ·exact mach_outer (q := begS 0) (k := l ++ [e]) HO.out
  ·have H1 := H.out
   rw [hb] at H1
   exact H1
 ·have hb2 := hbeg l
  simp only [mach, mcB, evB, hb] at hb2
  clear hbeg hbe2 htell
  repeat' first | refine st ?_ | (refine ca ?_; first | apply hb2) | (refine br ?_ ?_; all_goals (intro hb; try simp only [bnn] at hb)) | fail
  apply f_endM (L := [])
  ·(simp only [go_sem, *]; try rfl)
  ·(simp only [go_sem, *]; try rfl)
  ·(simp only [go_sem, *, Tryz.results214]; try rfl)
  ·simp
  ·exact mach_outer (q := begS 0) (k := l) HO.out
  ·have H1 := H.out
   rw [hb] at H1
   simp only [if_true, List.append_nil] at H1
   exact H1
set_option maxHeartbeats 4000000 in
theorem sSign (w0 : World) (X : List Blk) (p : Ps) (l : List Ev) (b : Nat) (hi : p.inter.length ≤ 2) (R : Rt) (h : R (.ret (.tup [])) (mach X (signS p b) l)) : ACall Tryz.prog w0 260 [.own X.length 0, .int .u8 b] (mach X p l) R := by
 have hsp := sSpoil w0 X p l
 by_cases hc : p.bad ∨ p.inter.length = 2
 ·unfold signS at h
  rw [if_pos hc] at h
  have H := Lib.hid h
  clear h
  refine en Tryz.func260 rfl Tryz.ntmps260 fun hO => ?_
  have HO := Lib.hid hO
  clear hO
  unfold mach mcB evB
  cases hb : p.bad
  ·have h2 : ((p.inter.length : Int) == 2) = true := by
    rcases hc with hc | hc
    ·rw [hb] at hc; cases hc
    ·rw [hc]; rfl
   simp only [mach, mcB, evB, hb] at hsp
   clear hc hi
   repeat' first | refine st ?_ | (refine ca ?_; first | apply hsp) | (refine br ?_ ?_; all_goals (intro hb; try simp only [bnn] at hb)) | fail
   apply f_retM (L := [])
   ·(simp only [go_sem, *]; try rfl)
   ·(simp only [go_sem, *]; try rfl)
   ·(simp only [go_sem, *, Tryz.results260]; try rfl)
   ·simp
   ·exact mach_outer (q := spoS p.st) HO.out
   ·exact H.out
  ·simp only [mach, mcB, evB, hb] at hsp
   clear hc hi
   repeat' first | refine st ?_ | (refine ca ?_; first | apply hsp) | (refine br ?_ ?_; all_goals (intro hb; try simp only [bnn] at hb)) | fail
   apply f_retM (L := [])
   ·(simp only [go_sem, *]; try rfl)
   ·(simp only [go_sem, *]; try rfl)
   ·(simp only [go_sem, *, Tryz.results260]; try rfl)
   ·simp
   ·exact mach_outer (q := spoS p.st) HO.out
   ·exact H.out
 ·unfold signS at h
  rw [if_neg hc] at h
  rw [not_or] at hc
  have hb : p.bad = false := by simpa using hc.1
  have h2 : ((p.inter.length : Int) == 2) = false := by rw [beq_eq_false_iff_ne]; omega
  have h3 : p.inter.length + 1 ≤ 9223372036854775807 := by omega
  have H := Lib.hid h
  clear h hc hi hsp
  refine en Tryz.func260 rfl Tryz.ntmps260 fun hO => ?_
  have HO := Lib.hid hO
  clear hO
  unfold mach mcB evB
  rw [hb]
  repeat' first | refine st ?_ | (refine br ?_ ?_; all_goals (intro hb; try simp only [bnn] at hb)) | refine sd ?_ | refine sx ?_ | apply pl_nil | (apply c_end; (· decide +kernel)) | refine bd ?_ ?_ | fail
  (apply f_endQ HO.out H.out; (· simp); (· (simp only [go_sem, *]; try rfl)); (· (simp only [go_sem, *]; try rfl)); (· (simp only [go_sem, *, Tryz.results260]; try rfl)))
theorem last_len (p : Ps) (b : Nat) : (lastS p b).2.length ≤ 1 := by
 unfold lastS
 split
 ·exact dispS_len _ _
 ·simp
set_option maxHeartbeats 4000000 in
theorem sLast (w0 : World) (X : List Blk) (p : Ps) (l : List Ev) (b : Nat) (hl : l.length ≤ 1000000) (hs : p.st ≤ 14) (R : Rt) (h : R (.ret (.tup [])) (mach X (lastS p b).1 (l ++ (lastS p b).2))) : ACall Tryz.prog w0 262 [.own X.length 0, .int .u8 b] (mach X p l) R := by
 have hd := sDisp w0 X p l (evCsi p b) hl
 unfold lastS at h
 by_cases h5 : p.st ≤ 5
 ·rw [if_pos h5] at h
  have d5 : decide ((p.st : Int) ≤ 5) = true := by simp; omega
  have hav : (evCsi p b).av = .agg [.int .i64 4, .int .i64 0, .int .u8 p.pv, .int .u8 b, .sval false (p.pars.map PmV), .str p.inter, .str []] := rfl
  rw [hav] at hd
  have H := Lib.hid h
  clear h h5 hl
  refine en Tryz.func262 rfl Tryz.ntmps262 fun hO => ?_
  have HO := Lib.hid hO
  clear hO
  unfold mach mcB evB
  repeat' ((fail_if_success (apply x_stop 9 rfl)); first | refine st ?_ | (refine br ?_ ?_; all_goals (intro hb; try simp only [bnn] at hb)) | fail)
  refine x_boxM 4 [0, 1, 4] rfl HO.out (by simp) (by (simp only [go_sem, *]; try rfl)) (by (simp only [go_sem, *]; try rfl)) (by (simp only [go_sem, *]; try rfl)) ?_
  simp only [mach, mcB, evB] at hd
  repeat' first | refine st ?_ | (refine ca ?_; first | apply hd) | (refine br ?_ ?_; all_goals (intro hb; try simp only [bnn] at hb)) | fail
  (apply f_retQ HO.out H.out; (· simp); (· (simp only [go_sem, *]; try rfl)); (· (simp only [go_sem, *]; try rfl)); (· (simp only [go_sem, *, Tryz.results262]; try rfl)))
 ·rw [if_neg h5] at h
  have d5 : decide ((p.st : Int) ≤ 5) = false := by simp; omega
  rw [List.append_nil] at h
  clear h5 hl hd
  cases hb : p.bad
  all_goals
   rw [hb] at h
   have H := Lib.hid h
   clear h
   refine en Tryz.func262 rfl Tryz.ntmps262 fun hO => ?_
   have HO := Lib.hid hO
   clear hO
   unfold mach mcB evB
   rw [hb]
   repeat' ((fail_if_success (apply x_stop 9 rfl)); first | refine st ?_ | (refine br ?_ ?_; all_goals (intro hb; try simp only [bnn] at hb)) | fail)
   refine x_boxM 4 [0, 1, 4] rfl (by first | exact mach_outer (q := { p with bad := false }) (k := l) HO.out | exact mach_outer (q := { p with bad := true }) (k := l) HO.out) (by simp) (by (simp only [go_sem, *]; try rfl)) (by (simp only [go_sem, *]; try rfl)) (by (simp only [go_sem, *]; try rfl)) ?_
   repeat' first | refine st ?_ | (refine br ?_ ?_; all_goals (intro hb; try simp only [bnn] at hb)) | fail
   (apply f_endQ HO.out H.out; (· simp); (· (simp only [go_sem, *]; try rfl)); (· (simp only [go_sem, *]; try rfl)); (· (simp only [go_sem, *, Tryz.results262]; try rfl)))
theorem lastR_ne' {l : List (List Int)} (h : l ≠ []) : lastR l = l := if_neg h
theorem map_take_last {α β : Type} (f : α → β) (q : List α) (x : α) : List.take q.length (List.map f (q ++ [x])) = List.map f q := by
 rw [List.map_append, List.take_append_of_le_length (by simp), List.take_of_length_le (by simp)]
theorem map_snoc {α β : Type} (f : α → β) (q : List α) (x : α) : List.map f q ++ [f x] = List.map f (q ++ [x]) := by simp
theorem CoI.all1 (l : List Int) : ((l.map CoI).all fun el => el.cells.length == 1) = true := by
 rw [List.all_eq_true]; intro x hx; obtain ⟨y, _, rfl⟩ := List.mem_map.1 hx; rfl
theorem PmV.all1 (l : List (List Int)) : ((l.map PmV).all fun el => el.cells.length == 1) = true := by
 rw [List.all_eq_true]; intro x hx; obtain ⟨y, _, rfl⟩ := List.mem_map.1 hx; rfl
set_option maxHeartbeats 4000000 in
theorem pChangeI (w0 : World) (S : List Blk) (q : List Int) (n v : Int) (hq : q.length ≤ 1000) (R : Rt) (h : R (.ret (.sval false ((q ++ [v]).map CoI))) S) : ACall Tryz.prog w0 324 [.sval false ((q ++ [n]).map CoI), .int .i64 v] S R := by
 have hlen : (q ++ [n]).length = q.length + 1 := by simp
 have hw : IntKind.i64.wrap (((q.length + 1 : Nat) : Int) - 1) = (q.length : Int) := by rw [IntWalk.i64_in _ (by omega)]; omega
 have htk := map_take_last CoI q n
 have hle : (q.length : Int) ≤ ((q.length + 1 : Nat) : Int) := by omega
 have hle2 : (q.length : Int) ≤ (q.length : Int) := Int.le_refl _
 have hb8 : (q.length + 1) * 8 ≤ 140737488355328 := by omega
 have hbe : (q.length == q.length) = true := by simp
 have hall := CoI.all1 (q ++ [n])
 simp only [AV.cells] at hall
 have okA := CoI.ok q
 simp only [okEls, AV.cells] at okA
 have h : R (.ret (.sval false (List.map CoI q ++ [.int .i64 v]))) S := by rw [← map_snoc] at h; exact h
 have H := Lib.hid h
 clear h
 refine en Tryz.func324 rfl Tryz.ntmps324 fun hO => ?_
 repeat' first | refine st ?_ | (refine br ?_ ?_; all_goals (intro hb; try simp only [bnn] at hb)) | fail
 have hl2 : (q.length + 1 = (List.map CoI q ++ [AV.int .i64 v]).length) = True := by simp
 (apply f_ret; iterate 7 (· simp only [go_sem, *, Tryz.results324]; try rfl))
 exact H.out
set_option maxHeartbeats 4000000 in
theorem pChangeP (w0 : World) (S : List Blk) (q : List (List Int)) (n v : List Int) (hq : q.length ≤ 1000) (R : Rt) (h : R (.ret (.sval false ((q ++ [v]).map PmV))) S) : ACall Tryz.prog w0 323 [.sval false ((q ++ [n]).map PmV), PmV v] S R := by
 have hlen : (q ++ [n]).length = q.length + 1 := by simp
 have hw : IntKind.i64.wrap (((q.length + 1 : Nat) : Int) - 1) = (q.length : Int) := by rw [IntWalk.i64_in _ (by omega)]; omega
 have htk := map_take_last PmV q n
 have hle : (q.length : Int) ≤ ((q.length + 1 : Nat) : Int) := by omega
 have hle2 : (q.length : Int) ≤ (q.length : Int) := Int.le_refl _
 have hb8 : (q.length + 1) * 24 ≤ 140737488355328 := by omega
 have hbe : (q.length == q.length) = true := by simp
 have hall := PmV.all1 (q ++ [n])
 simp only [AV.cells] at hall
 have okA := PmV.ok q
 simp only [okEls, AV.cells] at okA
 have h : R (.ret (.sval false (List.map PmV q ++ [.agg [.sval false (v.map CoI)]]))) S := by rw [← map_snoc] at h; exact h
 have H := Lib.hid h
 clear h
 rw [show PmV v = .agg [.sval false (v.map CoI)] from rfl]
 refine en Tryz.func323 rfl Tryz.ntmps323 fun hO => ?_
 repeat' first | refine st ?_ | (refine br ?_ ?_; all_goals (intro hb; try simp only [bnn] at hb)) | refine sd ?_ | refine sx ?_ | apply pl_nil | (apply c_end; (· decide +kernel)) | refine bd ?_ ?_ | fail
 all_goals have hl2 : (q.length + 1 = (List.map PmV q ++ [AV.agg [.sval false (List.map CoI v)]]).length) = True := by simp
 all_goals (apply f_ret; iterate 7 (· simp only [go_sem, *, Tryz.results323]; try rfl))
 all_goals exact H.out
theorem pStep1 (w0 : World) (S : List Blk) (a : Nat) (ty : Option TypeId) (q : List (List Int)) (n v : List Int) (hq : q.length ≤ 1000) (ha : S[a]? = some (.cells [.sval false ((q ++ [n]).map PmV)] ty)) (R : Rt) (h : R (.ret (.tup [.sval false ((q ++ [v]).map PmV), .int .i64 0])) S) : ACall Tryz.prog w0 322 [.sval false (v.map CoI), .own a 0] S R := by
 have hc := fun S' => pChangeP w0 S' q n v hq
 rw [show PmV v = .agg [.sval false (v.map CoI)] from rfl] at hc
 clear hq
 refine en Tryz.func322 rfl Tryz.ntmps322 fun hO => ?_
 repeat' first | refine st ?_ | (refine ca ?_; first | apply hc) | (refine br ?_ ?_; all_goals (intro hb; try simp only [bnn] at hb)) | fail
 (apply f_ret; iterate 7 (· simp only [go_sem, *, Tryz.results322]; try rfl))
 exact h
def stepV5 (q : List (List Int) × Int) : AV := .tup [.sval false (q.1.map PmV), .int .i64 q.2]
set_option maxHeartbeats 8000000 in
theorem pStepN (w0 : World) (S : List Blk) (pre : List (List Int)) (q : List Int) (n : Int) (c : Nat) (hc : c < 256) (hok : okRow (pre ++ [q ++ [n]]) = true) (h1 : pre.length ≤ 15) (h2 : q.length ≤ 5) (h3 : -1 ≤ n ∧ n ≤ 9999) (R : Rt) (h : R (.ret (stepV5 (stepP (pre ++ [q ++ [n]]) c))) S) :
  ACall Tryz.prog w0 299 [.sval false ((pre ++ [q ++ [n]]).map PmV), .int .u8 c] S R := by
 have hck := fun S' => pCheck w0 S' (pre ++ [q ++ [n]]) ⟨by simp; omega, by
  intro s hs
  rcases List.mem_append.1 hs with hs | hs
  ·unfold okRow at hok
   simp only [Bool.and_eq_true, decide_eq_true_eq, Bool.not_eq_true', List.any_append, Bool.or_eq_false_iff, List.any_eq_false] at hok
   have := hok.2.2.1 s hs
   unfold badS at this
   simp only [Bool.or_eq_true, not_or, decide_eq_true_eq] at this
   omega
  ·rw [List.mem_singleton.1 hs]; simp; omega⟩
 unfold parE at hck
 rw [hok] at hck
 rw [stepP_split (lastR_ne' (by simp))] at h
 have hlen : (pre ++ [q ++ [n]]).length = pre.length + 1 := by simp
 have hlen2 : (q ++ [n]).length = q.length + 1 := by simp
 have hx : (pre ++ [q ++ [n]])[pre.length]? = some (q ++ [n]) := by simp
 have hy : (q ++ [n])[q.length]? = some n := by simp
 have hw1 : IntKind.i64.wrap (((pre.length + 1 : Nat) : Int) - 1) = (pre.length : Int) := by rw [IntWalk.i64_in _ (by omega)]; omega
 have hw2 : IntKind.i64.wrap (((q.length + 1 : Nat) : Int) - 1) = (q.length : Int) := by rw [IntWalk.i64_in _ (by omega)]; omega
 have e0 : (((pre.length + 1 : Nat) : Int) == 0) = false := by rw [beq_eq_false_iff_ne]; omega
 have hall1 := PmV.all1 (pre ++ [q ++ [n]])
 have hall2 := CoI.all1 (q ++ [n])
 simp only [AV.cells] at hall1 hall2
 have okA := PmV.ok (pre ++ [q ++ [n]])
 have okB := CoI.ok (q ++ [n])
 simp only [okEls, AV.cells] at okA okB
 have hch := fun S' v => pStep1 w0 S' (S.length) none pre (q ++ [n]) v (by omega)
 have hci := fun S' v => pChangeI w0 S' q n v (by omega)
 have H3 := Lib.hid h3
 clear hok h3
 by_cases c1 : c = 59
 ·subst c1
  rw [if_pos rfl] at h
  by_cases hp : pre.length < 15
  ·rw [if_pos hp] at h
   have d1 : decide (((pre.length + 1 : Nat) : Int) < 16) = true := by simp; omega
   have hle : ((pre.length + 1 : Nat) : Int) ≤ ((pre.length + 1 : Nat) : Int) := Int.le_refl _
   have hbe : (pre.length + 1 == pre.length + 1) = true := by simp
   have hb8 : (pre.length + 1 + 1) * 24 ≤ 140737488355328 := by omega
   have htk : List.take (pre.length + 1) (List.map PmV (pre ++ [q ++ [n]])) = List.map PmV (pre ++ [q ++ [n]]) := List.take_of_length_le (by simp)
   have h : R (.ret (.tup [.sval false (List.map PmV (pre ++ [q ++ [n]]) ++ [.agg [.sval false [.int .i64 (-1)]]]), .int .i64 0])) S := by
    have e : List.map PmV (pre ++ [q ++ [n]]) ++ [.agg [.sval false [.int .i64 (-1)]]] = List.map PmV (pre ++ [q ++ [n], [-1]]) := by simp [PmV, CoI]
    rw [e]; exact h
   have H := Lib.hid h
   clear h hp h1 h2 hch hci
   refine en Tryz.func299 rfl Tryz.ntmps299 fun hO => ?_
   repeat' ((fail_if_success (apply x_stop 44 rfl)); first | refine st ?_ | (refine ca ?_; first | apply hck) | (refine br ?_ ?_; all_goals (intro hb; try simp only [bnn] at hb)) | fail)
   refine x_frzS (t := 43) (a := S.length + 1) rfl (by (simp only [go_sem, *]; try rfl)) (by (simp only [go_sem, *]; try rfl)) ?_
   repeat' first | refine st ?_ | (refine ca ?_; first | apply hck) | (refine br ?_ ?_; all_goals (intro hb; try simp only [bnn] at hb)) | fail
   have hl2 : (pre.length + 1 + 1 = (List.map PmV (pre ++ [q ++ [n]]) ++ [AV.agg [.sval false [.int .i64 (-1)]]]).length) = True := by simp
   (apply f_ret; iterate 7 (· simp only [go_sem, *, Tryz.results299]; try rfl))
   exact H.out
  ·rw [if_neg hp] at h
   have d1 : decide (((pre.length + 1 : Nat) : Int) < 16) = false := by simp; omega
   have H := Lib.hid h
   clear h hp h1 h2 hch hci
   refine en Tryz.func299 rfl Tryz.ntmps299 fun hO => ?_
   repeat' first | refine st ?_ | (refine ca ?_; first | apply hck) | (refine br ?_ ?_; all_goals (intro hb; try simp only [bnn] at hb)) | refine sd ?_ | refine sx ?_ | apply pl_nil | (apply c_end; (· decide +kernel)) | refine bd ?_ ?_ | (refine cd ?_; first | apply hck) | fail
   (apply f_ret; iterate 7 (· simp only [go_sem, *, Tryz.results299]; try rfl))
   exact H.out
 rw [if_neg c1] at h
 have f1 : ((c : Int) == 59) = false := by rw [beq_eq_false_iff_ne]; omega
 by_cases c2 : c = 58
 ·subst c2
  rw [if_pos rfl] at h
  by_cases hp : q.length < 5
  ·rw [if_pos hp] at h
   have d1 : decide (((q.length + 1 : Nat) : Int) < 6) = true := by simp; omega
   have hle : ((q.length + 1 : Nat) : Int) ≤ ((q.length + 1 : Nat) : Int) := Int.le_refl _
   have hbe : (q.length + 1 == q.length + 1) = true := by simp
   have hb8 : (q.length + 1 + 1) * 8 ≤ 140737488355328 := by omega
   have htk : List.take (q.length + 1) (List.map CoI (q ++ [n])) = List.map CoI (q ++ [n]) := List.take_of_length_le (by simp)
   have hch2 := fun S' => hch S' (q ++ [n, -1])
   have e : List.map CoI (q ++ [n, -1]) = List.map CoI (q ++ [n]) ++ [.int .i64 (-1)] := by simp [CoI]
   rw [e] at hch2
   have H := Lib.hid h
   clear h hp h1 h2 hch hci e
   refine en Tryz.func299 rfl Tryz.ntmps299 fun hO => ?_
   repeat' ((fail_if_success (apply x_stop 64 rfl)); first | refine st ?_ | (refine ca ?_; first | apply hck) | (refine br ?_ ?_; all_goals (intro hb; try simp only [bnn] at hb)) | fail)
   have hl2 : (q.length + 1 + 1 = (List.map CoI (q ++ [n]) ++ [AV.int .i64 (-1)]).length) = True := by simp
   refine x_frzS (t := 63) (a := S.length + 2) rfl (by (simp only [go_sem, *]; try rfl)) (by (simp only [go_sem, *]; try rfl)) ?_
   repeat' first | refine st ?_ | (refine ca ?_; first | (apply hch2; (· simp only [go_sem, *]; try rfl))) | (refine br ?_ ?_; all_goals (intro hb; try simp only [bnn] at hb)) | fail
   (apply f_ret; iterate 7 (· simp only [go_sem, *, Tryz.results299]; try rfl))
   exact H.out
  ·rw [if_neg hp] at h
   have d1 : decide (((q.length + 1 : Nat) : Int) < 6) = false := by simp; omega
   have H := Lib.hid h
   clear h hp h1 h2 hch hci
   refine en Tryz.func299 rfl Tryz.ntmps299 fun hO => ?_
   repeat' first | refine st ?_ | (refine ca ?_; first | apply hck) | (refine br ?_ ?_; all_goals (intro hb; try simp only [bnn] at hb)) | refine sd ?_ | refine sx ?_ | apply pl_nil | (apply c_end; (· decide +kernel)) | refine bd ?_ ?_ | (refine cd ?_; first | apply hck) | fail
   (apply f_ret; iterate 7 (· simp only [go_sem, *, Tryz.results299]; try rfl))
   exact H.out
 rw [if_neg c2] at h
 have f2 : ((c : Int) == 58) = false := by rw [beq_eq_false_iff_ne]; omega
 by_cases c3 : 48 ≤ c ∧ c ≤ 57
 ·rw [if_pos c3] at h
  have g1 : decide ((48 : Int) ≤ (c : Int)) = true := by simp; omega
  have g2 : decide ((c : Int) ≤ 57) = true := by simp; omega
  have hwc : IntKind.u8.wrap ((c : Int) - 48) = (c : Int) - 48 := IntWalk.u8_in _ (by omega)
  have hwd : IntKind.i64.wrap ((c : Int) - 48) = (c : Int) - 48 := IntWalk.i64_in _ (by omega)
  obtain ⟨m, hm⟩ : ∃ m : Int, (if (0 : Int) < n then n else 0) = m := ⟨_, rfl⟩
  have hm2 : m = max 0 n ∧ 0 ≤ m ∧ m ≤ 9999 := by have := H3.out; subst hm; split <;> omega
  have hwm : IntKind.i64.wrap (m * 10) = m * 10 := IntWalk.i64_in _ (by omega)
  have hwa : IntKind.i64.wrap (m * 10 + ((c : Int) - 48)) = m * 10 + ((c : Int) - 48) := IntWalk.i64_in _ (by omega)
  obtain ⟨v, hv⟩ : ∃ v : Int, (if (9999 : Int) < m * 10 + ((c : Int) - 48) then 9999 else m * 10 + ((c : Int) - 48)) = v := ⟨_, rfl⟩
  have hv2 : v = min (max 0 n * 10 + ((c : Int) - 48)) 9999 := by subst hv; rw [← hm2.1]; split <;> omega
  rw [← hv2] at h
  have hch2 := fun S' => hch S' (q ++ [v])
  have hci2 := fun S' => hci S' v
  have H := Lib.hid h
  clear h c1 c2 c3 h1 h2 hch hci hv2 hm2
  refine en Tryz.func299 rfl Tryz.ntmps299 fun hO => ?_
  repeat' first | refine st ?_ | (refine ca ?_; first | apply hck | (apply hch2; (· simp only [go_sem, *]; try rfl)) | apply hci2) | (refine br ?_ ?_; all_goals (intro hb; try simp only [bnn] at hb)) | fail
  (apply f_ret; iterate 7 (· simp only [go_sem, *, Tryz.results299]; try rfl))
  exact H.out
 ·rw [if_neg c3] at h
  have H := Lib.hid h
  clear h h1 h2 hch hci
  by_cases c4 : 48 ≤ c
  ·have g1 : decide ((48 : Int) ≤ (c : Int)) = true := by simp; omega
   have g2 : decide ((c : Int) ≤ 57) = false := by simp; omega
   clear c1 c2 c3 c4
   refine en Tryz.func299 rfl Tryz.ntmps299 fun hO => ?_
   repeat' first | refine st ?_ | (refine ca ?_; first | apply hck) | (refine br ?_ ?_; all_goals (intro hb; try simp only [bnn] at hb)) | fail
   (apply f_ret; iterate 7 (· simp only [go_sem, *, Tryz.results299]; try rfl))
   exact H.out
  ·have g1 : decide ((48 : Int) ≤ (c : Int)) = false := by simp; omega
   clear c1 c2 c3 c4
   refine en Tryz.func299 rfl Tryz.ntmps299 fun hO => ?_
   repeat' first | refine st ?_ | (refine ca ?_; first | apply hck) | (refine br ?_ ?_; all_goals (intro hb; try simp only [bnn] at hb)) | fail
   (apply f_ret; iterate 7 (· simp only [go_sem, *, Tryz.results299]; try rfl))
   exact H.out
set_option maxHeartbeats 8000000 in
theorem pStep0 (w0 : World) (S : List Blk) (c : Nat) (hc : c < 256) (R : Rt) (h : R (.ret (stepV5 (stepP [] c))) S) :
  ACall Tryz.prog w0 299 [.sval false [], .int .u8 c] S R := by
 have hck := fun S' => pCheck w0 S' [] ⟨by decide, by simp⟩
 have hck0 : parE [] = 0 := by decide
 rw [hck0] at hck
 simp only [List.map_nil] at hck
 rw [stepP_split (pre := []) (q := []) (n := -1) rfl] at h
 have hch := fun S' v => pStep1 w0 S' S.length none [] [-1] v (by decide)
 simp only [List.nil_append, List.map_cons, List.map_nil, PmV, CoI] at hch
 have hci := fun S' v => pChangeI w0 S' [] (-1) v (by decide)
 simp only [List.nil_append, List.map_cons, List.map_nil, PmV, CoI] at hci
 simp only [List.nil_append, List.length_nil] at h
 by_cases c1 : c = 59
 ·subst c1
  have H := Lib.hid h
  clear h hch hci
  refine en Tryz.func299 rfl Tryz.ntmps299 fun hO => ?_
  repeat' ((fail_if_success (apply x_stop 21 rfl)); first | refine st ?_ | (refine ca ?_; first | apply hck) | (refine br ?_ ?_; all_goals (intro hb; try simp only [bnn] at hb)) | fail)
  refine x_cvC S.length [S.length + 1, S.length + 2] (by (simp only [go_sem, *]; try rfl)) (by (simp only [go_sem, *]; try rfl)) (by (simp only [go_sem, *]; try rfl)) (by (simp only [go_sem, *]; try rfl)) ?_
  simp only [go_sem, *]
  repeat' ((fail_if_success (apply x_stop 44 rfl)); first | refine st ?_ | (refine ca ?_; first | apply hck) | (refine br ?_ ?_; all_goals (intro hb; try simp only [bnn] at hb)) | fail)
  refine x_frzS (t := 43) (a := S.length + 3) rfl (by (simp only [go_sem, *]; try rfl)) (by (simp only [go_sem, *]; try rfl)) ?_
  repeat' first | refine st ?_ | (refine ca ?_; first | apply hck) | (refine br ?_ ?_; all_goals (intro hb; try simp only [bnn] at hb)) | fail
  (apply f_ret; iterate 7 (· simp only [go_sem, *, Tryz.results299]; try rfl))
  exact H.out
 rw [if_neg c1] at h
 have f1 : ((c : Int) == 59) = false := by rw [beq_eq_false_iff_ne]; omega
 by_cases c2 : c = 58
 ·subst c2
  have hch2 := fun S' => hch S' [-1, -1]
  simp only [List.map_cons, List.map_nil, CoI] at hch2
  have H := Lib.hid h
  clear h hch hci
  refine en Tryz.func299 rfl Tryz.ntmps299 fun hO => ?_
  repeat' ((fail_if_success (apply x_stop 21 rfl)); first | refine st ?_ | (refine ca ?_; first | apply hck) | (refine br ?_ ?_; all_goals (intro hb; try simp only [bnn] at hb)) | fail)
  refine x_cvC S.length [S.length + 1, S.length + 2] (by (simp only [go_sem, *]; try rfl)) (by (simp only [go_sem, *]; try rfl)) (by (simp only [go_sem, *]; try rfl)) (by (simp only [go_sem, *]; try rfl)) ?_
  simp only [go_sem, *]
  repeat' ((fail_if_success (apply x_stop 64 rfl)); first | refine st ?_ | (refine ca ?_; first | apply hck) | (refine br ?_ ?_; all_goals (intro hb; try simp only [bnn] at hb)) | fail)
  refine x_frzS (t := 63) (a := S.length + 4) rfl (by (simp only [go_sem, *]; try rfl)) (by (simp only [go_sem, *]; try rfl)) ?_
  repeat' first | refine st ?_ | (refine ca ?_; first | (apply hch2; (· simp only [go_sem, *]; try rfl))) | (refine br ?_ ?_; all_goals (intro hb; try simp only [bnn] at hb)) | fail
  (apply f_ret; iterate 7 (· simp only [go_sem, *, Tryz.results299]; try rfl))
  exact H.out
 rw [if_neg c2] at h
 have f2 : ((c : Int) == 58) = false := by rw [beq_eq_false_iff_ne]; omega
 by_cases c3 : 48 ≤ c ∧ c ≤ 57
 ·rw [if_pos c3] at h
  have g1 : decide ((48 : Int) ≤ (c : Int)) = true := by simp; omega
  have g2 : decide ((c : Int) ≤ 57) = true := by simp; omega
  have hwc : IntKind.u8.wrap ((c : Int) - 48) = (c : Int) - 48 := IntWalk.u8_in _ (by omega)
  have hwd : IntKind.i64.wrap ((c : Int) - 48) = (c : Int) - 48 := IntWalk.i64_in _ (by omega)
  have hwa : IntKind.i64.wrap (0 + ((c : Int) - 48)) = (c : Int) - 48 := by rw [Int.zero_add]; exact hwd
  have hw0 : IntKind.i64.wrap ((if (-1 : Int) > 0 then -1 else 0) * 10) = 0 := by decide
  have hv : ((9999 : Int) < (c : Int) - 48) = False := eq_false (by omega)
  rw [show min (max 0 (-1 : Int) * 10 + ((c : Int) - 48)) 9999 = (c : Int) - 48 by omega] at h
  obtain ⟨v, hvv⟩ : ∃ v : Int, (c : Int) - 48 = v := ⟨_, rfl⟩
  rw [hvv] at hwc hwd hwa hv h
  have hch2 := fun S' => hch S' [v]
  simp only [List.map_cons, List.map_nil, CoI] at hch2
  have hci2 := fun S' => hci S' v
  have H := Lib.hid h
  clear h c1 c2 c3 hch hci
  refine en Tryz.func299 rfl Tryz.ntmps299 fun hO => ?_
  repeat' ((fail_if_success (apply x_stop 21 rfl)); first | refine st ?_ | (refine ca ?_; first | apply hck) | (refine br ?_ ?_; all_goals (intro hb; try simp only [bnn] at hb)) | fail)
  refine x_cvC S.length [S.length + 1, S.length + 2] (by (simp only [go_sem, *]; try rfl)) (by (simp only [go_sem, *]; try rfl)) (by (simp only [go_sem, *]; try rfl)) (by (simp only [go_sem, *]; try rfl)) ?_
  simp only [go_sem, *]
  repeat' first | refine st ?_ | (refine ca ?_; first | (apply hch2; (· simp only [go_sem, *]; try rfl)) | apply hci2) | (refine br ?_ ?_; all_goals (intro hb; try simp only [bnn] at hb)) | fail
  (apply f_ret; iterate 7 (· simp only [go_sem, *, Tryz.results299]; try rfl))
  exact H.out
 ·rw [if_neg c3] at h
  have H := Lib.hid h
  clear h hch hci
  by_cases c4 : 48 ≤ c
  ·have g1 : decide ((48 : Int) ≤ (c : Int)) = true := by simp; omega
   have g2 : decide ((c : Int) ≤ 57) = false := by simp; omega
   clear c1 c2 c3 c4
   refine en Tryz.func299 rfl Tryz.ntmps299 fun hO => ?_
   repeat' first | refine st ?_ | (refine ca ?_; first | apply hck) | (refine br ?_ ?_; all_goals (intro hb; try simp only [bnn] at hb)) | fail
   (apply f_ret; iterate 7 (· simp only [go_sem, *, Tryz.results299]; try rfl))
   exact H.out
  ·have g1 : decide ((48 : Int) ≤ (c : Int)) = false := by simp; omega
   clear c1 c2 c3 c4
   refine en Tryz.func299 rfl Tryz.ntmps299 fun hO => ?_
   repeat' first | refine st ?_ | (refine ca ?_; first | apply hck) | (refine br ?_ ?_; all_goals (intro hb; try simp only [bnn] at hb)) | fail
   (apply f_ret; iterate 7 (· simp only [go_sem, *, Tryz.results299]; try rfl))
   exact H.out
theorem pStep (w0 : World) (S : List Blk) (l : List (List Int)) (c : Nat) (hc : c < 256) (hok : okRow l = true) (R : Rt) (h : R (.ret (stepV5 (stepP l c))) S) : ACall Tryz.prog w0 299 [.sval false (l.map PmV), .int .u8 c] S R := by
 by_cases hl : l = []
 ·subst hl; exact pStep0 w0 S c hc R h
 ·obtain ⟨pre, q, n, e, h1, h2, h3, _, _⟩ := lastR_split hok
  rw [lastR_ne' hl] at e
  subst e
  exact pStepN w0 S pre q n c hc hok h1 h2 h3 R h
set_option maxHeartbeats 4000000 in
theorem sDigit (w0 : World) (X : List Blk) (p : Ps) (l : List Ev) (b : Nat) (hb8 : b < 256) (hok : okRow p.pars = true) (R : Rt) (h : R (.ret (.tup [])) (mach X (digS p b) l)) : ACall Tryz.prog w0 261 [.own X.length 0, .int .u8 b] (mach X p l) R := by
 have hsp := sSpoil w0 X p l
 have hst := fun S' => pStep w0 S' p.pars b hb8 hok
 unfold stepV5 at hst
 unfold digS at h
 generalize stepP p.pars b = q at h hst
 obtain ⟨q1, q2⟩ := q
 simp only at h hst
 clear hok hb8
 by_cases hq : q2 = 0
 ·subst hq
  cases hb : p.bad
  ·have h : R (.ret (.tup [])) (mach X { p with pars := q1 } l) := by simpa [hb] using h
   have H := Lib.hid h
   clear h hsp
   refine en Tryz.func261 rfl Tryz.ntmps261 fun hO => ?_
   have HO := Lib.hid hO
   clear hO
   unfold mach mcB evB
   rw [hb]
   repeat' first | refine st ?_ | (refine ca ?_; first | apply hst) | (refine br ?_ ?_; all_goals (intro hb; try simp only [bnn] at hb)) | fail
   (apply f_endQ HO.out H.out; (· simp); (· (simp only [go_sem, *]; try rfl)); (· (simp only [go_sem, *]; try rfl)); (· (simp only [go_sem, *, Tryz.results261]; try rfl)))
  ·have h : R (.ret (.tup [])) (mach X (spoS p.st) l) := by simpa [hb] using h
   have H := Lib.hid h
   clear h
   refine en Tryz.func261 rfl Tryz.ntmps261 fun hO => ?_
   have HO := Lib.hid hO
   clear hO
   unfold mach mcB evB
   simp only [mach, mcB, evB, hb] at hsp ⊢
   repeat' first | refine st ?_ | (refine ca ?_; first | apply hst | apply hsp) | (refine br ?_ ?_; all_goals (intro hb; try simp only [bnn] at hb)) | fail
   (apply f_retQ HO.out H.out; (· simp); (· (simp only [go_sem, *]; try rfl)); (· (simp only [go_sem, *]; try rfl)); (· (simp only [go_sem, *, Tryz.results261]; try rfl)))
 ·have h : R (.ret (.tup [])) (mach X (spoS p.st) l) := by simpa [hq] using h
  have hq2 : (q2 == 0) = false := by rw [beq_eq_false_iff_ne]; exact hq
  have hq3 : (q2 != 0) = true := by simpa using hq
  have hq4 : decide (q2 = 0) = false := by simpa using hq
  have H := Lib.hid h
  clear h hq
  refine en Tryz.func261 rfl Tryz.ntmps261 fun hO => ?_
  have HO := Lib.hid hO
  clear hO
  unfold mach mcB evB
  simp only [mach, mcB, evB] at hsp
  repeat' first | refine st ?_ | (refine ca ?_; first | apply hst | apply hsp) | (refine br ?_ ?_; all_goals (intro hb; try simp only [bnn] at hb)) | fail
  (apply f_retQ HO.out H.out; (· simp); (· (simp only [go_sem, *]; try rfl)); (· (simp only [go_sem, *]; try rfl)); (· (simp only [go_sem, *, Tryz.results261]; try rfl)))
set_option maxHeartbeats 4000000 in
theorem sGround (w0 : World) (X : List Blk) (p : Ps) (l : List Ev) (b : Nat) (hl : l.length ≤ 1000000) (hb : b < 256) (R : Rt) (h : R (.ret (.tup [])) (mach X p (l ++ [evPrint b]))) : ACall Tryz.prog w0 216 [.own X.length 0, .int .u8 b] (mach X p l) R := by
 have k0 := sTell w0 X p l (evPrint b) hl
 rw [show (evPrint b).av = .agg [.int .i64 1, .int .i64 b, .int .u8 0, .int .u8 0, .sval false [], .str [], .str []] from rfl] at k0
 simp only [mach, mcB, evB] at k0
 have hw : IntKind.i64.wrap (b : Int) = (b : Int) := IntWalk.i64_in _ (by omega)
 have H := Lib.hid h
 clear h hl hb
 refine en Tryz.func216 rfl Tryz.ntmps216 fun hO => ?_
 have HO := Lib.hid hO
 clear hO
 unfold mach mcB evB
 repeat' first | refine st ?_ | (refine ca ?_; first | apply k0) | (refine br ?_ ?_; all_goals (intro hb; try simp only [bnn] at hb)) | fail
 (apply f_endQ HO.out H.out; (· simp); (· (simp only [go_sem, *]; try rfl)); (· (simp only [go_sem, *]; try rfl)); (· (simp only [go_sem, *, Tryz.results216]; try rfl)))
set_option maxHeartbeats 8000000 in
theorem sEscape (w0 : World) (X : List Blk) (p : Ps) (l : List Ev) (b : Nat) (hl : l.length ≤ 1000000) (hp : PsI p) (hb : b < 256) (R : Rt) (h : R (.ret (.tup [])) (mach X (escS p b).1 (l ++ (escS p b).2))) : ACall Tryz.prog w0 217 [.own X.length 0, .int .u8 b] (mach X p l) R := by
 unfold escS at h
 by_cases c91 : b = 91
 ·rw [if_pos c91] at h
  try simp only [List.append_nil] at h
  have e91 : ((b : Int) == 91) = true := by simp; omega
  have k0 := sBegin w0 X p l 3
  simp only [mach, mcB, evB] at k0
  have H := Lib.hid h
  clear h hl hp hb
  refine en Tryz.func217 rfl Tryz.ntmps217 fun hO => ?_
  have HO := Lib.hid hO
  clear hO
  unfold mach mcB evB
  repeat' first | refine st ?_ | (refine ca ?_; first | apply k0) | (refine br ?_ ?_; all_goals (intro hb; try simp only [bnn] at hb)) | fail
  (apply f_endQ HO.out H.out; (· simp); (· (simp only [go_sem, *]; try rfl)); (· (simp only [go_sem, *]; try rfl)); (· (simp only [go_sem, *, Tryz.results217]; try rfl)))
 rw [if_neg c91] at h
 by_cases c93 : b = 93
 ·rw [if_pos c93] at h
  try simp only [List.append_nil] at h
  have e91 : ((b : Int) == 91) = false := by rw [beq_eq_false_iff_ne]; omega
  have e93 : ((b : Int) == 93) = true := by simp; omega
  have k0 := sBegin w0 X p l 6
  simp only [mach, mcB, evB] at k0
  have H := Lib.hid h
  clear h hl hp hb
  refine en Tryz.func217 rfl Tryz.ntmps217 fun hO => ?_
  have HO := Lib.hid hO
  clear hO
  unfold mach mcB evB
  repeat' first | refine st ?_ | (refine ca ?_; first | apply k0) | (refine br ?_ ?_; all_goals (intro hb; try simp only [bnn] at hb)) | fail
  (apply f_endQ HO.out H.out; (· simp); (· (simp only [go_sem, *]; try rfl)); (· (simp only [go_sem, *]; try rfl)); (· (simp only [go_sem, *, Tryz.results217]; try rfl)))
 rw [if_neg c93] at h
 by_cases c80 : b = 80
 ·rw [if_pos c80] at h
  try simp only [List.append_nil] at h
  have e91 : ((b : Int) == 91) = false := by rw [beq_eq_false_iff_ne]; omega
  have e93 : ((b : Int) == 93) = false := by rw [beq_eq_false_iff_ne]; omega
  have e80 : ((b : Int) == 80) = true := by simp; omega
  have k0 := sBegin w0 X p l 8
  simp only [mach, mcB, evB] at k0
  have H := Lib.hid h
  clear h hl hp hb
  refine en Tryz.func217 rfl Tryz.ntmps217 fun hO => ?_
  have HO := Lib.hid hO
  clear hO
  unfold mach mcB evB
  repeat' first | refine st ?_ | (refine ca ?_; first | apply k0) | (refine br ?_ ?_; all_goals (intro hb; try simp only [bnn] at hb)) | fail
  (apply f_endQ HO.out H.out; (· simp); (· (simp only [go_sem, *]; try rfl)); (· (simp only [go_sem, *]; try rfl)); (· (simp only [go_sem, *, Tryz.results217]; try rfl)))
 rw [if_neg c80] at h
 by_cases c88 : b = 88 ∨ b = 94 ∨ b = 95
 ·rw [if_pos c88] at h
  rcases c88 with rfl | rfl | rfl
  ·
   try simp only [List.append_nil] at h
   have k0 := sBegin w0 X p l 13
   simp only [mach, mcB, evB] at k0
   have H := Lib.hid h
   clear h hl hp hb
   refine en Tryz.func217 rfl Tryz.ntmps217 fun hO => ?_
   have HO := Lib.hid hO
   clear hO
   unfold mach mcB evB
   repeat' first | refine st ?_ | (refine ca ?_; first | apply k0) | (refine br ?_ ?_; all_goals (intro hb; try simp only [bnn] at hb)) | fail
   (apply f_endQ HO.out H.out; (· simp); (· (simp only [go_sem, *]; try rfl)); (· (simp only [go_sem, *]; try rfl)); (· (simp only [go_sem, *, Tryz.results217]; try rfl)))
  ·
   try simp only [List.append_nil] at h
   have k0 := sBegin w0 X p l 13
   simp only [mach, mcB, evB] at k0
   have H := Lib.hid h
   clear h hl hp hb
   refine en Tryz.func217 rfl Tryz.ntmps217 fun hO => ?_
   have HO := Lib.hid hO
   clear hO
   unfold mach mcB evB
   repeat' first | refine st ?_ | (refine ca ?_; first | apply k0) | (refine br ?_ ?_; all_goals (intro hb; try simp only [bnn] at hb)) | fail
   (apply f_endQ HO.out H.out; (· simp); (· (simp only [go_sem, *]; try rfl)); (· (simp only [go_sem, *]; try rfl)); (· (simp only [go_sem, *, Tryz.results217]; try rfl)))
  ·
   try simp only [List.append_nil] at h
   have k0 := sBegin w0 X p l 13
   simp only [mach, mcB, evB] at k0
   have H := Lib.hid h
   clear h hl hp hb
   refine en Tryz.func217 rfl Tryz.ntmps217 fun hO => ?_
   have HO := Lib.hid hO
   clear hO
   unfold mach mcB evB
   repeat' first | refine st ?_ | (refine ca ?_; first | apply k0) | (refine br ?_ ?_; all_goals (intro hb; try simp only [bnn] at hb)) | fail
   (apply f_endQ HO.out H.out; (· simp); (· (simp only [go_sem, *]; try rfl)); (· (simp only [go_sem, *]; try rfl)); (· (simp only [go_sem, *, Tryz.results217]; try rfl)))
 rw [if_neg c88] at h
 rw [not_or, not_or] at c88
 by_cases c48 : b < 48
 ·rw [if_pos c48] at h
  try simp only [List.append_nil] at h
  have e91 : ((b : Int) == 91) = false := by rw [beq_eq_false_iff_ne]; omega
  have e93 : ((b : Int) == 93) = false := by rw [beq_eq_false_iff_ne]; omega
  have e80 : ((b : Int) == 80) = false := by rw [beq_eq_false_iff_ne]; omega
  have e88 : ((b : Int) == 88) = false := by rw [beq_eq_false_iff_ne]; omega
  have e94 : ((b : Int) == 94) = false := by rw [beq_eq_false_iff_ne]; omega
  have e95 : ((b : Int) == 95) = false := by rw [beq_eq_false_iff_ne]; omega
  have d48 : decide ((b : Int) < 48) = true := by simp; omega
  have k0 := sBegin w0 X p l 2
  have k1 := sSign w0 X (begS 2) l b (Nat.zero_le _)
  simp only [mach, mcB, evB] at k0 k1
  have H := Lib.hid h
  clear h hl hp hb
  refine en Tryz.func217 rfl Tryz.ntmps217 fun hO => ?_
  have HO := Lib.hid hO
  clear hO
  unfold mach mcB evB
  repeat' first | refine st ?_ | (refine ca ?_; first | apply k0 | apply k1) | (refine br ?_ ?_; all_goals (intro hb; try simp only [bnn] at hb)) | fail
  (apply f_retQ HO.out H.out; (· simp); (· (simp only [go_sem, *]; try rfl)); (· (simp only [go_sem, *]; try rfl)); (· (simp only [go_sem, *, Tryz.results217]; try rfl)))
 rw [if_neg c48] at h
 have k0 := sDisp w0 X p l (evEsc [] b) hl
 rw [show (evEsc [] b).av = .agg [.int .i64 3, .int .i64 0, .int .u8 0, .int .u8 b, .sval false [], .str [], .str []] from rfl] at k0
 simp only [mach, mcB, evB] at k0
 try simp only [List.append_nil] at h
 have e91 : ((b : Int) == 91) = false := by rw [beq_eq_false_iff_ne]; omega
 have e93 : ((b : Int) == 93) = false := by rw [beq_eq_false_iff_ne]; omega
 have e80 : ((b : Int) == 80) = false := by rw [beq_eq_false_iff_ne]; omega
 have e88 : ((b : Int) == 88) = false := by rw [beq_eq_false_iff_ne]; omega
 have e94 : ((b : Int) == 94) = false := by rw [beq_eq_false_iff_ne]; omega
 have e95 : ((b : Int) == 95) = false := by rw [beq_eq_false_iff_ne]; omega
 have d48 : decide ((b : Int) < 48) = false := by simp; omega
 have H := Lib.hid h
 clear h hl hp hb
 refine en Tryz.func217 rfl Tryz.ntmps217 fun hO => ?_
 have HO := Lib.hid hO
 clear hO
 unfold mach mcB evB
 repeat' first | refine st ?_ | (refine ca ?_; first | apply k0) | (refine br ?_ ?_; all_goals (intro hb; try simp only [bnn] at hb)) | fail
 (apply f_endQ HO.out H.out; (· simp); (· (simp only [go_sem, *]; try rfl)); (· (simp only [go_sem, *]; try rfl)); (· (simp only [go_sem, *, Tryz.results217]; try rfl)))
set_option maxHeartbeats 8000000 in
theorem sSigns (w0 : World) (X : List Blk) (p : Ps) (l : List Ev) (b : Nat) (hl : l.length ≤ 1000000) (hp : PsI p) (hb : b < 256) (R : Rt) (h : R (.ret (.tup [])) (mach X (signsS p b).1 (l ++ (signsS p b).2))) : ACall Tryz.prog w0 218 [.own X.length 0, .int .u8 b] (mach X p l) R := by
 unfold signsS at h
 have hi := hp.inter
 by_cases c48 : b < 48
 ·rw [if_pos c48] at h
  try simp only [List.append_nil] at h
  have d48 : decide ((b : Int) < 48) = true := by simp; omega
  have k0 := sSign w0 X p l b hi
  simp only [mach, mcB, evB] at k0
  have H := Lib.hid h
  clear h hl hp hb
  refine en Tryz.func218 rfl Tryz.ntmps218 fun hO => ?_
  have HO := Lib.hid hO
  clear hO
  unfold mach mcB evB
  repeat' first | refine st ?_ | (refine ca ?_; first | apply k0) | (refine br ?_ ?_; all_goals (intro hb; try simp only [bnn] at hb)) | fail
  (apply f_retQ HO.out H.out; (· simp); (· (simp only [go_sem, *]; try rfl)); (· (simp only [go_sem, *]; try rfl)); (· (simp only [go_sem, *, Tryz.results218]; try rfl)))
 rw [if_neg c48] at h
 have k0 := sDisp w0 X p l (evEsc p.inter b) hl
 rw [show (evEsc p.inter b).av = .agg [.int .i64 3, .int .i64 0, .int .u8 0, .int .u8 b, .sval false [], .str p.inter, .str []] from rfl] at k0
 simp only [mach, mcB, evB] at k0
 try simp only [List.append_nil] at h
 have d48 : decide ((b : Int) < 48) = false := by simp; omega
 have H := Lib.hid h
 clear h hl hp hb
 refine en Tryz.func218 rfl Tryz.ntmps218 fun hO => ?_
 have HO := Lib.hid hO
 clear hO
 unfold mach mcB evB
 repeat' first | refine st ?_ | (refine ca ?_; first | apply k0) | (refine br ?_ ?_; all_goals (intro hb; try simp only [bnn] at hb)) | fail
 (apply f_endQ HO.out H.out; (· simp); (· (simp only [go_sem, *]; try rfl)); (· (simp only [go_sem, *]; try rfl)); (· (simp only [go_sem, *, Tryz.results218]; try rfl)))
set_option maxHeartbeats 8000000 in
theorem sEntry (w0 : World) (X : List Blk) (p : Ps) (l : List Ev) (b : Nat) (hl : l.length ≤ 1000000) (hp : PsI p) (hb : b < 256) (R : Rt) (h : R (.ret (.tup [])) (mach X (entryS p b).1 (l ++ (entryS p b).2))) : ACall Tryz.prog w0 219 [.own X.length 0, .int .u8 b] (mach X p l) R := by
 unfold entryS at h
 have hs := hp.st
 by_cases c48 : b < 48
 ·rw [if_pos c48] at h
  try simp only [List.append_nil] at h
  have d48 : decide ((b : Int) < 48) = true := by simp; omega
  have hw : IntKind.i64.wrap ((p.st : Int) + 2) = ((p.st + 2 : Nat) : Int) := by rw [IntWalk.i64_in _ (by omega)]; omega
  have k0 := sBegin w0 X p l (p.st + 2)
  have k1 := sSign w0 X (begS (p.st + 2)) l b (Nat.zero_le _)
  simp only [mach, mcB, evB] at k0 k1
  have H := Lib.hid h
  clear h hl hp hb
  refine en Tryz.func219 rfl Tryz.ntmps219 fun hO => ?_
  have HO := Lib.hid hO
  clear hO
  unfold mach mcB evB
  repeat' first | refine st ?_ | (refine ca ?_; first | apply k0 | apply k1) | (refine br ?_ ?_; all_goals (intro hb; try simp only [bnn] at hb)) | fail
  (apply f_endQ HO.out H.out; (· simp); (· (simp only [go_sem, *]; try rfl)); (· (simp only [go_sem, *]; try rfl)); (· (simp only [go_sem, *, Tryz.results219]; try rfl)))
 rw [if_neg c48] at h
 by_cases c60 : b < 60
 ·rw [if_pos c60] at h
  try simp only [List.append_nil] at h
  have d48 : decide ((b : Int) < 48) = false := by simp; omega
  have d60 : decide ((b : Int) < 60) = true := by simp; omega
  have hw : IntKind.i64.wrap ((p.st : Int) + 1) = ((p.st + 1 : Nat) : Int) := by rw [IntWalk.i64_in _ (by omega)]; omega
  have k0 := sBegin w0 X p l (p.st + 1)
  have k1 := sDigit w0 X (begS (p.st + 1)) l b hb rfl
  simp only [mach, mcB, evB] at k0 k1
  have H := Lib.hid h
  clear h hl hp hb
  refine en Tryz.func219 rfl Tryz.ntmps219 fun hO => ?_
  have HO := Lib.hid hO
  clear hO
  unfold mach mcB evB
  repeat' first | refine st ?_ | (refine ca ?_; first | apply k0 | apply k1) | (refine br ?_ ?_; all_goals (intro hb; try simp only [bnn] at hb)) | fail
  (apply f_endQ HO.out H.out; (· simp); (· (simp only [go_sem, *]; try rfl)); (· (simp only [go_sem, *]; try rfl)); (· (simp only [go_sem, *, Tryz.results219]; try rfl)))
 rw [if_neg c60] at h
 by_cases c64 : b < 64
 ·rw [if_pos c64] at h
  try simp only [List.append_nil] at h
  have d48 : decide ((b : Int) < 48) = false := by simp; omega
  have d60 : decide ((b : Int) < 60) = false := by simp; omega
  have d64 : decide ((b : Int) < 64) = true := by simp; omega
  have hw : IntKind.i64.wrap ((p.st : Int) + 1) = ((p.st + 1 : Nat) : Int) := by rw [IntWalk.i64_in _ (by omega)]; omega
  have k0 := sBegin w0 X p l (p.st + 1)
  simp only [mach, mcB, evB] at k0
  have H := Lib.hid h
  clear h hl hp hb
  refine en Tryz.func219 rfl Tryz.ntmps219 fun hO => ?_
  have HO := Lib.hid hO
  clear hO
  unfold mach mcB evB
  repeat' first | refine st ?_ | (refine ca ?_; first | apply k0) | (refine br ?_ ?_; all_goals (intro hb; try simp only [bnn] at hb)) | fail
  (apply f_endQ HO.out H.out; (· simp); (· (simp only [go_sem, *]; try rfl)); (· (simp only [go_sem, *]; try rfl)); (· (simp only [go_sem, *, Tryz.results219]; try rfl)))
 rw [if_neg c64] at h
 try simp only [List.append_nil] at h
 have d48 : decide ((b : Int) < 48) = false := by simp; omega
 have d60 : decide ((b : Int) < 60) = false := by simp; omega
 have d64 : decide ((b : Int) < 64) = false := by simp; omega
 have k0 := sLast w0 X p l b hl hs
 simp only [mach, mcB, evB] at k0
 have H := Lib.hid h
 clear h hl hp hb
 refine en Tryz.func219 rfl Tryz.ntmps219 fun hO => ?_
 have HO := Lib.hid hO
 clear hO
 unfold mach mcB evB
 repeat' first | refine st ?_ | (refine ca ?_; first | apply k0) | (refine br ?_ ?_; all_goals (intro hb; try simp only [bnn] at hb)) | fail
 (apply f_endQ HO.out H.out; (· simp); (· (simp only [go_sem, *]; try rfl)); (· (simp only [go_sem, *]; try rfl)); (· (simp only [go_sem, *, Tryz.results219]; try rfl)))
set_option maxHeartbeats 8000000 in
theorem sParams (w0 : World) (X : List Blk) (p : Ps) (l : List Ev) (b : Nat) (hl : l.length ≤ 1000000) (hp : PsI p) (hb : b < 256) (R : Rt) (h : R (.ret (.tup [])) (mach X (paramsS p b).1 (l ++ (paramsS p b).2))) : ACall Tryz.prog w0 220 [.own X.length 0, .int .u8 b] (mach X p l) R := by
 unfold paramsS at h
 have hs := hp.st
 have hi := hp.inter
 by_cases c48 : b < 48
 ·rw [if_pos c48] at h
  try simp only [List.append_nil] at h
  have d48 : decide ((b : Int) < 48) = true := by simp; omega
  have hw : IntKind.i64.wrap ((p.st : Int) + 1) = ((p.st + 1 : Nat) : Int) := by rw [IntWalk.i64_in _ (by omega)]; omega
  have k0 := sSign w0 X { p with st := p.st + 1 } l b hi
  simp only [mach, mcB, evB] at k0
  have H := Lib.hid h
  clear h hl hp hb
  refine en Tryz.func220 rfl Tryz.ntmps220 fun hO => ?_
  have HO := Lib.hid hO
  clear hO
  unfold mach mcB evB
  repeat' first | refine st ?_ | (refine ca ?_; first | apply k0) | (refine br ?_ ?_; all_goals (intro hb; try simp only [bnn] at hb)) | fail
  (apply f_endQ HO.out H.out; (· simp); (· (simp only [go_sem, *]; try rfl)); (· (simp only [go_sem, *]; try rfl)); (· (simp only [go_sem, *, Tryz.results220]; try rfl)))
 rw [if_neg c48] at h
 by_cases c60 : b < 60
 ·rw [if_pos c60] at h
  try simp only [List.append_nil] at h
  have d48 : decide ((b : Int) < 48) = false := by simp; omega
  have d60 : decide ((b : Int) < 60) = true := by simp; omega
  have k0 := sDigit w0 X p l b hb hp.pars
  simp only [mach, mcB, evB] at k0
  have H := Lib.hid h
  clear h hl hp hb
  refine en Tryz.func220 rfl Tryz.ntmps220 fun hO => ?_
  have HO := Lib.hid hO
  clear hO
  unfold mach mcB evB
  repeat' first | refine st ?_ | (refine ca ?_; first | apply k0) | (refine br ?_ ?_; all_goals (intro hb; try simp only [bnn] at hb)) | fail
  (apply f_endQ HO.out H.out; (· simp); (· (simp only [go_sem, *]; try rfl)); (· (simp only [go_sem, *]; try rfl)); (· (simp only [go_sem, *, Tryz.results220]; try rfl)))
 rw [if_neg c60] at h
 by_cases c64 : b < 64
 ·rw [if_pos c64] at h
  try simp only [List.append_nil] at h
  have d48 : decide ((b : Int) < 48) = false := by simp; omega
  have d60 : decide ((b : Int) < 60) = false := by simp; omega
  have d64 : decide ((b : Int) < 64) = true := by simp; omega
  have k0 := sSpoil w0 X p l
  simp only [mach, mcB, evB] at k0
  have H := Lib.hid h
  clear h hl hp hb
  refine en Tryz.func220 rfl Tryz.ntmps220 fun hO => ?_
  have HO := Lib.hid hO
  clear hO
  unfold mach mcB evB
  repeat' first | refine st ?_ | (refine ca ?_; first | apply k0) | (refine br ?_ ?_; all_goals (intro hb; try simp only [bnn] at hb)) | fail
  (apply f_endQ HO.out H.out; (· simp); (· (simp only [go_sem, *]; try rfl)); (· (simp only [go_sem, *]; try rfl)); (· (simp only [go_sem, *, Tryz.results220]; try rfl)))
 rw [if_neg c64] at h
 try simp only [List.append_nil] at h
 have d48 : decide ((b : Int) < 48) = false := by simp; omega
 have d60 : decide ((b : Int) < 60) = false := by simp; omega
 have d64 : decide ((b : Int) < 64) = false := by simp; omega
 have k0 := sLast w0 X p l b hl hs
 simp only [mach, mcB, evB] at k0
 have H := Lib.hid h
 clear h hl hp hb
 refine en Tryz.func220 rfl Tryz.ntmps220 fun hO => ?_
 have HO := Lib.hid hO
 clear hO
 unfold mach mcB evB
 repeat' first | refine st ?_ | (refine ca ?_; first | apply k0) | (refine br ?_ ?_; all_goals (intro hb; try simp only [bnn] at hb)) | fail
 (apply f_endQ HO.out H.out; (· simp); (· (simp only [go_sem, *]; try rfl)); (· (simp only [go_sem, *]; try rfl)); (· (simp only [go_sem, *, Tryz.results220]; try rfl)))
set_option maxHeartbeats 8000000 in
theorem sInters (w0 : World) (X : List Blk) (p : Ps) (l : List Ev) (b : Nat) (hl : l.length ≤ 1000000) (hp : PsI p) (hb : b < 256) (R : Rt) (h : R (.ret (.tup [])) (mach X (intersS p b).1 (l ++ (intersS p b).2))) : ACall Tryz.prog w0 221 [.own X.length 0, .int .u8 b] (mach X p l) R := by
 unfold intersS at h
 have hs := hp.st
 have hi := hp.inter
 by_cases c48 : b < 48
 ·rw [if_pos c48] at h
  try simp only [List.append_nil] at h
  have d48 : decide ((b : Int) < 48) = true := by simp; omega
  have k0 := sSign w0 X p l b hi
  simp only [mach, mcB, evB] at k0
  have H := Lib.hid h
  clear h hl hp hb
  refine en Tryz.func221 rfl Tryz.ntmps221 fun hO => ?_
  have HO := Lib.hid hO
  clear hO
  unfold mach mcB evB
  repeat' first | refine st ?_ | (refine ca ?_; first | apply k0) | (refine br ?_ ?_; all_goals (intro hb; try simp only [bnn] at hb)) | fail
  (apply f_endQ HO.out H.out; (· simp); (· (simp only [go_sem, *]; try rfl)); (· (simp only [go_sem, *]; try rfl)); (· (simp only [go_sem, *, Tryz.results221]; try rfl)))
 rw [if_neg c48] at h
 by_cases c64 : b < 64
 ·rw [if_pos c64] at h
  try simp only [List.append_nil] at h
  have d48 : decide ((b : Int) < 48) = false := by simp; omega
  have d64 : decide ((b : Int) < 64) = true := by simp; omega
  have k0 := sSpoil w0 X p l
  simp only [mach, mcB, evB] at k0
  have H := Lib.hid h
  clear h hl hp hb
  refine en Tryz.func221 rfl Tryz.ntmps221 fun hO => ?_
  have HO := Lib.hid hO
  clear hO
  unfold mach mcB evB
  repeat' first | refine st ?_ | (refine ca ?_; first | apply k0) | (refine br ?_ ?_; all_goals (intro hb; try simp only [bnn] at hb)) | fail
  (apply f_endQ HO.out H.out; (· simp); (· (simp only [go_sem, *]; try rfl)); (· (simp only [go_sem, *]; try rfl)); (· (simp only [go_sem, *, Tryz.results221]; try rfl)))
 rw [if_neg c64] at h
 try simp only [List.append_nil] at h
 have d48 : decide ((b : Int) < 48) = false := by simp; omega
 have d64 : decide ((b : Int) < 64) = false := by simp; omega
 have k0 := sLast w0 X p l b hl hs
 simp only [mach, mcB, evB] at k0
 have H := Lib.hid h
 clear h hl hp hb
 refine en Tryz.func221 rfl Tryz.ntmps221 fun hO => ?_
 have HO := Lib.hid hO
 clear hO
 unfold mach mcB evB
 repeat' first | refine st ?_ | (refine ca ?_; first | apply k0) | (refine br ?_ ?_; all_goals (intro hb; try simp only [bnn] at hb)) | fail
 (apply f_endQ HO.out H.out; (· simp); (· (simp only [go_sem, *]; try rfl)); (· (simp only [go_sem, *]; try rfl)); (· (simp only [go_sem, *, Tryz.results221]; try rfl)))
def wayV : AV := .agg [.fn (.func 216) [] [], .fn (.func 217) [] [], .fn (.func 218) [] [], .fn (.func 219) [] [], .fn (.func 220) [] [], .fn (.func 221) [] [], .fnil, .fnil, .fn (.func 219) [] [], .fn (.func 220) [] [], .fn (.func 221) [] [], .fnil, .fnil, .fnil, .fnil]
theorem sWays (w0 : World) (S : List Blk) (R : Rt) (h : R (.ret wayV) S) : ACall Tryz.prog w0 171 [] S R := by
 unfold wayV at h
 have H := Lib.hid h
 clear h
 refine en Tryz.func171 rfl Tryz.ntmps171 fun hO => ?_
 repeat' first | refine st ?_ | (refine br ?_ ?_; all_goals (intro hb; try simp only [bnn] at hb)) | fail
 (apply f_ret; iterate 7 (· simp only [go_sem, *, Tryz.results171]; try rfl))
 exact H.out
set_option maxHeartbeats 8000000 in
theorem sWithin (w0 : World) (X : List Blk) (p : Ps) (l : List Ev) (b : Nat) (hl : l.length ≤ 1000000) (hp : PsI p) (hb : b < 256) (R : Rt) (h : R (.ret (.tup [])) (mach X (withinS p b).1 (l ++ (withinS p b).2))) : ACall Tryz.prog w0 169 [.own X.length 0, .int .u8 b] (mach X p l) R := by
 have hs := hp.st
 have ht := hp.text
 unfold withinS at h
 by_cases c1 : b = 7 ∧ p.st = 6
 ·rw [if_pos c1] at h
  have e7 : ((b : Int) == 7) = true := by simp; omega
  have e6 : ((p.st : Int) == 6) = true := by simp; omega
  have k0 := sDisp w0 X p l (evOsc p) hl
  rw [show (evOsc p).av = .agg [.int .i64 5, .int .i64 0, .int .u8 0, .int .u8 0, .sval false [], .str [], .str p.text] from rfl] at k0
  simp only [mach, mcB, evB] at k0
  have H := Lib.hid h
  clear h hl hp hb c1
  refine en Tryz.func169 rfl Tryz.ntmps169 fun hO => ?_
  have HO := Lib.hid hO
  clear hO
  unfold mach mcB evB
  repeat' first | refine st ?_ | (refine ca ?_; first | apply k0) | (refine br ?_ ?_; all_goals (intro hb; try simp only [bnn] at hb)) | fail
  (apply f_endQ HO.out H.out; (· simp); (· (simp only [go_sem, *]; try rfl)); (· (simp only [go_sem, *]; try rfl)); (· (simp only [go_sem, *, Tryz.results169]; try rfl)))
 rw [if_neg c1] at h
 have f7 : ((b : Int) == 7) = false ∨ ((b : Int) == 7) = true ∧ ((p.st : Int) == 6) = false := by
  simp only [beq_eq_false_iff_ne, beq_iff_eq]
  omega
 have e67 : ∃ u : Bool, ((p.st : Int) == 6) = u := ⟨_, rfl⟩
 by_cases c2 : b < 32 ∨ b = 127 ∨ p.st = 13 ∨ p.bad = true
 ·rw [if_pos c2] at h
  simp only [List.append_nil] at h
  have c3 : (decide ((b : Int) < 32) = true) ∨ (decide ((b : Int) < 32) = false ∧ ((b : Int) == 127) = true) ∨ (decide ((b : Int) < 32) = false ∧ ((b : Int) == 127) = false ∧ ((p.st : Int) == 13) = true) ∨ (decide ((b : Int) < 32) = false ∧ ((b : Int) == 127) = false ∧ ((p.st : Int) == 13) = false ∧ p.bad = true) := by
   simp only [beq_eq_false_iff_ne, beq_iff_eq, decide_eq_true_eq, decide_eq_false_iff_not]
   by_cases g1 : b < 32
   ·left; omega
   by_cases g2 : b = 127
   ·right; left; omega
   by_cases g3 : p.st = 13
   ·right; right; left; omega
   ·right; right; right
    have g4 : p.bad = true := by simpa [g1, g2, g3] using c2
    exact ⟨by omega, by omega, by omega, g4⟩
  have H := Lib.hid h
  clear h hl hp hb c1 c2 hs ht
  clear e67
  obtain ⟨s0, utf, pv, fn, pars, inter, text, bad⟩ := p
  simp only at c3 f7
  rcases c3 with d1 | ⟨d1, d2⟩ | ⟨d1, d2, d3⟩ | ⟨d1, d2, d3, rfl⟩ <;> rcases f7 with f7 | ⟨f7, f6⟩
  all_goals
   refine en Tryz.func169 rfl Tryz.ntmps169 fun hO => ?_
   have HO := Lib.hid hO
   clear hO
   simp only [mach, mcB, evB]
   repeat' first | refine st ?_ | (refine br ?_ ?_; all_goals (intro hb; try simp only [bnn] at hb)) | fail
   (apply f_endQ HO.out H.out; (· simp); (· (simp only [go_sem, *]; try rfl)); (· (simp only [go_sem, *]; try rfl)); (· (simp only [go_sem, *, Tryz.results169]; try rfl)))
 rw [if_neg c2] at h
 rw [not_or, not_or, not_or] at c2
 obtain ⟨g1, g2, g3, g4⟩ := c2
 have d1 : decide ((b : Int) < 32) = false := by simp; omega
 have d2 : ((b : Int) == 127) = false := by rw [beq_eq_false_iff_ne]; omega
 have d3 : ((p.st : Int) == 13) = false := by rw [beq_eq_false_iff_ne]; omega
 have d4 : p.bad = false := by simpa using g4
 by_cases c5 : p.text.length = 512
 ·rw [if_pos c5] at h
  simp only [List.append_nil] at h
  clear e67
  have d5 : ((p.text.length : Int) == 512) = true := by simp; omega
  have k0 := sSpoil w0 X p l
  have H := Lib.hid h
  simp only [mach, mcB, evB] at k0
  clear h hl hp hb c1 g1 g2 g3 g4 c5 hs ht
  rcases f7 with f7 | ⟨f7, f6⟩
  all_goals
   refine en Tryz.func169 rfl Tryz.ntmps169 fun hO => ?_
   have HO := Lib.hid hO
   clear hO
   unfold mach mcB evB
   rw [d4] at k0 ⊢
   repeat' first | refine st ?_ | (refine ca ?_; first | apply k0) | (refine br ?_ ?_; all_goals (intro hb; try simp only [bnn] at hb)) | fail
   (apply f_endQ HO.out H.out; (· simp); (· (simp only [go_sem, *]; try rfl)); (· (simp only [go_sem, *]; try rfl)); (· (simp only [go_sem, *, Tryz.results169]; try rfl)))
 ·rw [if_neg c5] at h
  simp only [List.append_nil] at h
  have d5 : ((p.text.length : Int) == 512) = false := by rw [beq_eq_false_iff_ne]; omega
  have d6 : p.text.length + 1 ≤ 9223372036854775807 := by omega
  have H := Lib.hid h
  clear h hl hp hb c1 g1 g2 g3 g4 c5 hs ht
  rcases f7 with f7 | ⟨f7, f6⟩
  all_goals
   refine en Tryz.func169 rfl Tryz.ntmps169 fun hO => ?_
   have HO := Lib.hid hO
   clear hO
   unfold mach mcB evB
   rw [d4]
   repeat' first | refine st ?_ | (refine br ?_ ?_; all_goals (intro hb; try simp only [bnn] at hb)) | refine sd ?_ | refine sx ?_ | apply pl_nil | (apply c_end; (· decide +kernel)) | refine bd ?_ ?_ | fail
   (apply f_endQ HO.out H.out; (· simp); (· (simp only [go_sem, *]; try rfl)); (· (simp only [go_sem, *]; try rfl)); (· (simp only [go_sem, *, Tryz.results169]; try rfl)))
def notPrint (p : Ps) (b : Nat) : Prop := ¬ (p.st = 0 ∧ (p.utf ≠ [] ∨ 128 ≤ b))
theorem st_cat {p : Ps} {b : Nat} (h : notPrint p b) : (((p.st : Int) == 0) = true ∧ decide ((0 : Int) < (p.utf.length : Int)) = false ∧ decide ((128 : Int) ≤ (b : Int)) = false ∧ ((p.st : Int) == 6) = false ∧ ((p.st : Int) == 11) = false ∧ ((p.st : Int) == 13) = false) ∨ ((p.st : Int) == 0) = false := by
 unfold notPrint at h
 simp only [beq_iff_eq, beq_eq_false_iff_ne, decide_eq_false_iff_not]
 by_cases h0 : p.st = 0
 ·left
  have h1 : ¬ (p.utf ≠ [] ∨ 128 ≤ b) := fun h' => h ⟨h0, h'⟩
  rw [not_or] at h1
  have h2 : p.utf = [] := Classical.not_not.1 h1.1
  have h3 : p.utf.length = 0 := by rw [h2]; rfl
  omega
 ·right; omega
theorem text_cat (n : Nat) : (inText n = true ∧ (((n : Int) == 6) = true ∨ (((n : Int) == 6) = false ∧ ((n : Int) == 11) = true) ∨ (((n : Int) == 6) = false ∧ ((n : Int) == 11) = false ∧ ((n : Int) == 13) = true))) ∨ (inText n = false ∧ ((n : Int) == 6) = false ∧ ((n : Int) == 11) = false ∧ ((n : Int) == 13) = false) := by
 unfold inText
 simp only [beq_iff_eq, beq_eq_false_iff_ne, Bool.or_eq_true, Bool.or_eq_false_iff]
 omega
theorem esc_cat {n : Nat} (h : inEsc n = false) : ((n : Int) == 7) = false ∧ ((n : Int) == 12) = false ∧ ((n : Int) == 14) = false := by
 unfold inEsc at h
 simp only [beq_eq_false_iff_ne, Bool.or_eq_false_iff] at h ⊢
 omega
set_option maxHeartbeats 8000000 in
theorem sTakeA1 (w0 : World) (X : List Blk) (p : Ps) (l : List Ev) (b : Nat) (hl : l.length ≤ 1000000) (hp : PsI p) (hb : b < 256) (hn : notPrint p b) (hc : b = 24 ∨ b = 26) (R : Rt) (h : R (.ret (.tup [])) (mach X (begS 0) l)) : ACall Tryz.prog w0 82 [.own X.length 0, .int .u8 b] (mach X p l) R := by
 have c1 := st_cat hn
 have c2 := text_cat p.st
 have c3 : ((b : Int) == 24) = true ∨ ((b : Int) == 24) = false ∧ ((b : Int) == 26) = true := by simp only [beq_iff_eq, beq_eq_false_iff_ne]; omega
 have k0 := sBegin w0 X p l 0
 simp only [mach, mcB, evB] at k0
 have H := Lib.hid h
 clear h hl hp hb hn hc
 rcases c3 with c3 | ⟨c3, c4⟩ <;> rcases c2 with ⟨_, c2 | ⟨c5, c2⟩ | ⟨c5, c6, c2⟩⟩ | ⟨_, c5, c6, c7⟩ <;> rcases c1 with ⟨c8, c9, c10, c11, c12, c13⟩ | c8
 all_goals first
  | (rw [c2] at c11; cases c11; done)
  | (rw [c2] at c12; cases c12; done)
  | (rw [c2] at c13; cases c13; done)
  | skip
 all_goals
  refine en Tryz.func82 rfl Tryz.ntmps82 fun hO => ?_
  have HO := Lib.hid hO
  clear hO
  unfold mach mcB evB
  repeat' first | refine st ?_ | (refine ca ?_; first | apply k0) | (refine br ?_ ?_; all_goals (intro hb; try simp only [bnn] at hb)) | fail
  (apply f_endQ HO.out H.out; (· simp); (· (simp only [go_sem, *]; try rfl)); (· (simp only [go_sem, *]; try rfl)); (· (simp only [go_sem, *, Tryz.results82]; try rfl)))
set_option maxHeartbeats 8000000 in
theorem sTakeA2 (w0 : World) (X : List Blk) (p : Ps) (l : List Ev) (b : Nat) (hl : l.length ≤ 1000000) (hp : PsI p) (hb : b < 256) (hn : notPrint p b) (hc : b = 27) (ht : inText p.st = true) (R : Rt) (h : R (.ret (.tup [])) (mach X { p with st := p.st + 1 } l)) : ACall Tryz.prog w0 82 [.own X.length 0, .int .u8 b] (mach X p l) R := by
 have c1 : ((p.st : Int) == 0) = false := by rw [beq_eq_false_iff_ne]; unfold inText at ht; simp only [Bool.or_eq_true, beq_iff_eq] at ht; omega
 have c2 := text_cat p.st
 have hs := hp.st
 have hw : IntKind.i64.wrap ((p.st : Int) + 1) = ((p.st + 1 : Nat) : Int) := by rw [IntWalk.i64_in _ (by omega)]; omega
 subst hc
 have H := Lib.hid h
 clear h hl hp hb hn hs
 rcases c2 with ⟨_, c2 | ⟨c5, c2⟩ | ⟨c5, c6, c2⟩⟩ | ⟨c2, _⟩
 rotate_right
 ·rw [ht] at c2; cases c2
 all_goals
  refine en Tryz.func82 rfl Tryz.ntmps82 fun hO => ?_
  have HO := Lib.hid hO
  clear hO
  unfold mach mcB evB
  repeat' first | refine st ?_ | (refine br ?_ ?_; all_goals (intro hb; try simp only [bnn] at hb)) | fail
  (apply f_endQ HO.out H.out; (· simp); (· (simp only [go_sem, *]; try rfl)); (· (simp only [go_sem, *]; try rfl)); (· (simp only [go_sem, *, Tryz.results82]; try rfl)))
set_option maxHeartbeats 8000000 in
theorem sTakeA3 (w0 : World) (X : List Blk) (p : Ps) (l : List Ev) (b : Nat) (hl : l.length ≤ 1000000) (hp : PsI p) (hb : b < 256) (hn : notPrint p b) (hc : b = 27) (ht : inText p.st = false) (R : Rt) (h : R (.ret (.tup [])) (mach X (begS 1) l)) : ACall Tryz.prog w0 82 [.own X.length 0, .int .u8 b] (mach X p l) R := by
 have c1 := st_cat hn
 have c2 := text_cat p.st
 have k0 := sBegin w0 X p l 1
 simp only [mach, mcB, evB] at k0
 subst hc
 have H := Lib.hid h
 clear h hl hp hb hn
 rcases c2 with ⟨c2, _⟩ | ⟨_, c5, c6, c7⟩
 ·rw [ht] at c2; cases c2
 rcases c1 with ⟨c8, c9, _⟩ | c8
 all_goals
  refine en Tryz.func82 rfl Tryz.ntmps82 fun hO => ?_
  have HO := Lib.hid hO
  clear hO
  unfold mach mcB evB
  repeat' first | refine st ?_ | (refine ca ?_; first | apply k0) | (refine br ?_ ?_; all_goals (intro hb; try simp only [bnn] at hb)) | fail
  (apply f_endQ HO.out H.out; (· simp); (· (simp only [go_sem, *]; try rfl)); (· (simp only [go_sem, *]; try rfl)); (· (simp only [go_sem, *, Tryz.results82]; try rfl)))
set_option maxHeartbeats 8000000 in
theorem sTakeA4 (w0 : World) (X : List Blk) (p : Ps) (l : List Ev) (b : Nat) (hl : l.length ≤ 1000000) (hp : PsI p) (hb : b < 256) (hn : notPrint p b) (hc : b ≠ 24 ∧ b ≠ 26 ∧ b ≠ 27) (ht : inText p.st = true) (R : Rt) (h : R (.ret (.tup [])) (mach X (withinS p b).1 (l ++ (withinS p b).2))) : ACall Tryz.prog w0 82 [.own X.length 0, .int .u8 b] (mach X p l) R := by
 have c1 : ((p.st : Int) == 0) = false ∧ ((p.st : Int) == 7) = false ∧ ((p.st : Int) == 12) = false ∧ ((p.st : Int) == 14) = false := by simp only [beq_eq_false_iff_ne]; unfold inText at ht; simp only [Bool.or_eq_true, beq_iff_eq] at ht; omega
 obtain ⟨q1, q2, q3, q4⟩ := c1
 have c2 := text_cat p.st
 have e24 : ((b : Int) == 24) = false := by rw [beq_eq_false_iff_ne]; omega
 have e26 : ((b : Int) == 26) = false := by rw [beq_eq_false_iff_ne]; omega
 have e27 : ((b : Int) == 27) = false := by rw [beq_eq_false_iff_ne]; omega
 have k0 := sWithin w0 X p l b hl hp hb
 simp only [mach, mcB, evB] at k0
 have H := Lib.hid h
 clear h hl hp hb hn hc
 rcases c2 with ⟨_, c2 | ⟨c5, c2⟩ | ⟨c5, c6, c2⟩⟩ | ⟨c2, _⟩
 rotate_right
 ·rw [ht] at c2; cases c2
 all_goals
  refine en Tryz.func82 rfl Tryz.ntmps82 fun hO => ?_
  have HO := Lib.hid hO
  clear hO
  unfold mach mcB evB
  repeat' first | refine st ?_ | (refine ca ?_; first | apply k0) | (refine br ?_ ?_; all_goals (intro hb; try simp only [bnn] at hb)) | fail
  (apply f_endQ HO.out H.out; (· simp); (· (simp only [go_sem, *]; try rfl)); (· (simp only [go_sem, *]; try rfl)); (· (simp only [go_sem, *, Tryz.results82]; try rfl)))
set_option maxHeartbeats 8000000 in
theorem sTakeA5 (w0 : World) (X : List Blk) (p : Ps) (l : List Ev) (b : Nat) (hl : l.length ≤ 1000000) (hp : PsI p) (hb : b < 256) (hn : notPrint p b) (hc : b ≠ 24 ∧ b ≠ 26 ∧ b ≠ 27) (hc2 : b < 32) (ht : inText p.st = false) (he : inEsc p.st = false) (R : Rt) (h : R (.ret (.tup [])) (mach X p (l ++ if p.st ≤ 5 then [evCtl b] else []))) : ACall Tryz.prog w0 82 [.own X.length 0, .int .u8 b] (mach X p l) R := by
 have c1 := st_cat hn
 have c2 := text_cat p.st
 obtain ⟨q2, q3, q4⟩ := esc_cat he
 rcases c2 with ⟨c2, _⟩ | ⟨_, c5, c6, c7⟩
 ·rw [ht] at c2; cases c2
 have e24 : ((b : Int) == 24) = false := by rw [beq_eq_false_iff_ne]; omega
 have e26 : ((b : Int) == 26) = false := by rw [beq_eq_false_iff_ne]; omega
 have e27 : ((b : Int) == 27) = false := by rw [beq_eq_false_iff_ne]; omega
 have d128 : decide ((128 : Int) ≤ (b : Int)) = false := by simp; omega
 have d32 : decide ((b : Int) < 32) = true := by simp; omega
 have hw : IntKind.i64.wrap (b : Int) = (b : Int) := IntWalk.i64_in _ (by omega)
 have k0 := sTell w0 X p l (evCtl b) hl
 rw [show (evCtl b).av = .agg [.int .i64 2, .int .i64 b, .int .u8 0, .int .u8 0, .sval false [], .str [], .str []] from rfl] at k0
 simp only [mach, mcB, evB] at k0
 by_cases h5 : p.st ≤ 5
 ·rw [if_pos h5] at h
  have d5 : decide ((p.st : Int) ≤ 5) = true := by simp; omega
  have H := Lib.hid h
  clear h hl hp hb hn hc hc2 h5
  rcases c1 with ⟨c8, c9, _⟩ | c8
  all_goals
   refine en Tryz.func82 rfl Tryz.ntmps82 fun hO => ?_
   have HO := Lib.hid hO
   clear hO
   unfold mach mcB evB
   repeat' first | refine st ?_ | (refine ca ?_; first | apply k0) | (refine br ?_ ?_; all_goals (intro hb; try simp only [bnn] at hb)) | fail
   (apply f_endQ HO.out H.out; (· simp); (· (simp only [go_sem, *]; try rfl)); (· (simp only [go_sem, *]; try rfl)); (· (simp only [go_sem, *, Tryz.results82]; try rfl)))
 ·rw [if_neg h5, List.append_nil] at h
  have d5 : decide ((p.st : Int) ≤ 5) = false := by simp; omega
  have H := Lib.hid h
  clear h hl hp hb hn hc hc2 h5
  rcases c1 with ⟨c8, c9, _⟩ | c8
  all_goals
   refine en Tryz.func82 rfl Tryz.ntmps82 fun hO => ?_
   have HO := Lib.hid hO
   clear hO
   unfold mach mcB evB
   repeat' first | refine st ?_ | (refine br ?_ ?_; all_goals (intro hb; try simp only [bnn] at hb)) | fail
   (apply f_endQ HO.out H.out; (· simp); (· (simp only [go_sem, *]; try rfl)); (· (simp only [go_sem, *]; try rfl)); (· (simp only [go_sem, *, Tryz.results82]; try rfl)))
set_option maxHeartbeats 8000000 in
theorem sTakeA6 (w0 : World) (X : List Blk) (p : Ps) (l : List Ev) (b : Nat) (hl : l.length ≤ 1000000) (hp : PsI p) (hb : b < 256) (hn : notPrint p b) (hc : b = 127) (ht : inText p.st = false) (he : inEsc p.st = false) (R : Rt) (h : R (.ret (.tup [])) (mach X p l)) : ACall Tryz.prog w0 82 [.own X.length 0, .int .u8 b] (mach X p l) R := by
 have c1 := st_cat hn
 have c2 := text_cat p.st
 obtain ⟨q2, q3, q4⟩ := esc_cat he
 rcases c2 with ⟨c2, _⟩ | ⟨_, c5, c6, c7⟩
 ·rw [ht] at c2; cases c2
 subst hc
 have H := Lib.hid h
 clear h hl hp hb hn
 rcases c1 with ⟨c8, c9, _⟩ | c8
 all_goals
  refine en Tryz.func82 rfl Tryz.ntmps82 fun hO => ?_
  have HO := Lib.hid hO
  clear hO
  unfold mach mcB evB
  repeat' first | refine st ?_ | (refine br ?_ ?_; all_goals (intro hb; try simp only [bnn] at hb)) | fail
  (apply f_endQ HO.out H.out; (· simp); (· (simp only [go_sem, *]; try rfl)); (· (simp only [go_sem, *]; try rfl)); (· (simp only [go_sem, *, Tryz.results82]; try rfl)))
theorem cat_facts {b : Nat} (h : 32 ≤ b ∧ b < 127) : ((b : Int) == 24) = false ∧ ((b : Int) == 26) = false ∧ ((b : Int) == 27) = false ∧ decide ((128 : Int) ≤ (b : Int)) = false ∧ decide ((b : Int) < 32) = false ∧ ((b : Int) != 127) = true := by
 simp only [beq_eq_false_iff_ne, decide_eq_false_iff_not, bne_iff_ne]
 omega
set_option maxHeartbeats 8000000 in
theorem sTakeW0 (w0 : World) (X : List Blk) (p : Ps) (l : List Ev) (b : Nat) (hl : l.length ≤ 1000000) (hp : PsI p) (hb : b < 256) (hn : notPrint p b) (hs : p.st = 0) (hc : 32 ≤ b ∧ b < 127) (R : Rt) (h : R (.ret (.tup [])) (mach X (goesS p b).1 (l ++ (goesS p b).2))) : ACall Tryz.prog w0 82 [.own X.length 0, .int .u8 b] (mach X p l) R := by
 have c1 := st_cat hn
 obtain ⟨f1, f2, f3, f4, f5, f6⟩ := cat_facts hc
 have k0 := sGround w0 X p l b hl hb
 have hw := sWays w0
 unfold wayV at hw
 unfold goesS at h
 have z : ((0 : Nat) : Int) = 0 := rfl
 clear hl hp hb hn hc
 obtain ⟨s0, utf, pv, fn, pars, inter, text, bad⟩ := p
 simp only at hs c1
 subst hs
 simp only at h
 have H := Lib.hid h
 clear h
 simp only [mach, mcB, evB, z] at k0
 simp only [z] at c1
 rcases c1 with ⟨_, c9, _⟩ | c8
 rotate_left
 ·cases c8
 refine en Tryz.func82 rfl Tryz.ntmps82 fun hO => ?_
 have HO := Lib.hid hO
 clear hO
 simp only [mach, mcB, evB, z]
 repeat' ((fail_if_success (apply x_stopR 20)); first | refine st ?_ | (refine br ?_ ?_; all_goals (intro hb; try simp only [bnn] at hb)) | fail)
 refine d_draw (n := 10) mixed rfl ?_
 refine d_last [(135, .agg [.fn (.func 216) [] [], .fn (.func 217) [] [], .fn (.func 218) [] [], .fn (.func 219) [] [], .fn (.func 220) [] [], .fn (.func 221) [] [], .fnil, .fnil, .fn (.func 219) [] [], .fn (.func 220) [] [], .fn (.func 221) [] [], .fnil, .fnil, .fnil, .fnil]), (136, (.own X.length 0)), (137, (.own X.length 0)), (138, (.own X.length 0)), (139, (.own X.length 0)), (140, .int .i64 0), (141, .fn (.func 216) [] []), (142, (.own X.length 0)), (143, .int .u8 b)] rfl rfl rfl (by decide +kernel) (by decide +kernel) ⟨?s0, ?s1, ?s2, ?s3, ?s4, ?s5, ?s6, ?s7, ?s8, trivial⟩ ?z
 case s0 | s1 | s7 | s8 =>
  intro env hd
  have q0 := hd.2 0 rfl
  have q1 := hd.2 1 rfl
  simp only [go_sem, *] at q0 q1
  clear hd
  repeat' first | refine st ?_ | (refine ca ?_; first | apply hw) | (refine br ?_ ?_; all_goals (intro hb; try simp only [bnn] at hb)) | refine sd ?_ | apply pl_nil | (apply c_end; (· decide +kernel)) | refine bd ?_ ?_ | (refine cd ?_; first | apply hw) | fail
  first | exact ⟨trivial, trivial⟩ | exact ⟨rfl, rfl⟩
 case s2 =>
  intro env hd
  have q0 := hd.2 0 rfl
  have q1 := hd.2 1 rfl
  simp only [go_sem, *] at q0 q1
  have r1 := hd.1 1 (by decide +kernel) _ _ rfl
  clear hd
  repeat' first | refine st ?_ | (refine ca ?_; first | apply hw) | (refine br ?_ ?_; all_goals (intro hb; try simp only [bnn] at hb)) | refine sd ?_ | apply pl_nil | (apply c_end; (· decide +kernel)) | refine bd ?_ ?_ | (refine cd ?_; first | apply hw) | fail
  first | exact ⟨trivial, trivial⟩ | exact ⟨rfl, rfl⟩
 case s3 =>
  intro env hd
  have q0 := hd.2 0 rfl
  have q1 := hd.2 1 rfl
  simp only [go_sem, *] at q0 q1
  have r2 := hd.1 2 (by decide +kernel) _ _ rfl
  clear hd
  repeat' first | refine st ?_ | (refine ca ?_; first | apply hw) | (refine br ?_ ?_; all_goals (intro hb; try simp only [bnn] at hb)) | refine sd ?_ | apply pl_nil | (apply c_end; (· decide +kernel)) | refine bd ?_ ?_ | (refine cd ?_; first | apply hw) | fail
  first | exact ⟨trivial, trivial⟩ | exact ⟨rfl, rfl⟩
 case s4 =>
  intro env hd
  have q0 := hd.2 0 rfl
  have q1 := hd.2 1 rfl
  simp only [go_sem, *] at q0 q1
  have r3 := hd.1 3 (by decide +kernel) _ _ rfl
  clear hd
  repeat' first | refine st ?_ | (refine ca ?_; first | apply hw) | (refine br ?_ ?_; all_goals (intro hb; try simp only [bnn] at hb)) | refine sd ?_ | apply pl_nil | (apply c_end; (· decide +kernel)) | refine bd ?_ ?_ | (refine cd ?_; first | apply hw) | fail
  first | exact ⟨trivial, trivial⟩ | exact ⟨rfl, rfl⟩
 case s5 =>
  intro env hd
  have q0 := hd.2 0 rfl
  have q1 := hd.2 1 rfl
  simp only [go_sem, *] at q0 q1
  have r4 := hd.1 4 (by decide +kernel) _ _ rfl
  clear hd
  repeat' first | refine st ?_ | (refine ca ?_; first | apply hw) | (refine br ?_ ?_; all_goals (intro hb; try simp only [bnn] at hb)) | refine sd ?_ | apply pl_nil | (apply c_end; (· decide +kernel)) | refine bd ?_ ?_ | (refine cd ?_; first | apply hw) | fail
  first | exact ⟨trivial, trivial⟩ | exact ⟨rfl, rfl⟩
 case s6 =>
  intro env hd
  have q0 := hd.2 0 rfl
  have q1 := hd.2 1 rfl
  simp only [go_sem, *] at q0 q1
  have r0 := hd.1 0 (by decide +kernel) _ _ rfl
  have r5 := hd.1 5 (by decide +kernel) _ _ rfl
  clear hd
  repeat' first | refine st ?_ | (refine ca ?_; first | apply hw) | (refine br ?_ ?_; all_goals (intro hb; try simp only [bnn] at hb)) | refine sd ?_ | apply pl_nil | (apply c_end; (· decide +kernel)) | refine bd ?_ ?_ | (refine cd ?_; first | apply hw) | fail
  first | exact ⟨trivial, trivial⟩ | exact ⟨rfl, rfl⟩
 case z =>
  intro env hs hk
  have r6 := hs 6 _ _ rfl
  have r7 := hs 7 _ _ rfl
  have r8 := hs 8 _ _ rfl
  have q5 := hk 1000000 rfl
  clear hs hk
  simp only [go_sem] at q5
  repeat' first | refine st ?_ | (refine ca ?_; first | apply k0) | (refine br ?_ ?_; all_goals (intro hb; try simp only [bnn] at hb)) | refine sd ?_ | apply pl_nil | (apply c_end; (· decide +kernel)) | refine bd ?_ ?_ | (refine cd ?_; first | apply k0) | fail
  (apply f_endQ HO.out H.out; (· simp); (· (simp only [go_sem, *]; try rfl)); (· (simp only [go_sem, *]; try rfl)); (· (simp only [go_sem, *, Tryz.results82]; try rfl)))
set_option maxHeartbeats 8000000 in
theorem sTakeW1 (w0 : World) (X : List Blk) (p : Ps) (l : List Ev) (b : Nat) (hl : l.length ≤ 1000000) (hp : PsI p) (hb : b < 256) (hn : notPrint p b) (hs : p.st = 1) (hc : 32 ≤ b ∧ b < 127) (R : Rt) (h : R (.ret (.tup [])) (mach X (goesS p b).1 (l ++ (goesS p b).2))) : ACall Tryz.prog w0 82 [.own X.length 0, .int .u8 b] (mach X p l) R := by
 have c1 := st_cat hn
 obtain ⟨f1, f2, f3, f4, f5, f6⟩ := cat_facts hc
 have k0 := sEscape w0 X p l b hl hp hb
 have hw := sWays w0
 unfold wayV at hw
 unfold goesS at h
 have z : ((1 : Nat) : Int) = 1 := rfl
 clear hl hp hb hn hc
 obtain ⟨s0, utf, pv, fn, pars, inter, text, bad⟩ := p
 simp only at hs c1
 subst hs
 simp only at h
 have H := Lib.hid h
 clear h
 simp only [mach, mcB, evB, z] at k0
 simp only [z] at c1
 clear c1
 refine en Tryz.func82 rfl Tryz.ntmps82 fun hO => ?_
 have HO := Lib.hid hO
 clear hO
 simp only [mach, mcB, evB, z]
 repeat' ((fail_if_success (apply x_stopR 20)); first | refine st ?_ | (refine br ?_ ?_; all_goals (intro hb; try simp only [bnn] at hb)) | fail)
 refine d_draw (n := 10) mixed rfl ?_
 refine d_last [(135, .agg [.fn (.func 216) [] [], .fn (.func 217) [] [], .fn (.func 218) [] [], .fn (.func 219) [] [], .fn (.func 220) [] [], .fn (.func 221) [] [], .fnil, .fnil, .fn (.func 219) [] [], .fn (.func 220) [] [], .fn (.func 221) [] [], .fnil, .fnil, .fnil, .fnil]), (136, (.own X.length 0)), (137, (.own X.length 0)), (138, (.own X.length 0)), (139, (.own X.length 0)), (140, .int .i64 1), (141, .fn (.func 217) [] []), (142, (.own X.length 0)), (143, .int .u8 b)] rfl rfl rfl (by decide +kernel) (by decide +kernel) ⟨?s0, ?s1, ?s2, ?s3, ?s4, ?s5, ?s6, ?s7, ?s8, trivial⟩ ?z
 case s0 | s1 | s7 | s8 =>
  intro env hd
  have q0 := hd.2 0 rfl
  have q1 := hd.2 1 rfl
  simp only [go_sem, *] at q0 q1
  clear hd
  repeat' first | refine st ?_ | (refine ca ?_; first | apply hw) | (refine br ?_ ?_; all_goals (intro hb; try simp only [bnn] at hb)) | refine sd ?_ | apply pl_nil | (apply c_end; (· decide +kernel)) | refine bd ?_ ?_ | (refine cd ?_; first | apply hw) | fail
  first | exact ⟨trivial, trivial⟩ | exact ⟨rfl, rfl⟩
 case s2 =>
  intro env hd
  have q0 := hd.2 0 rfl
  have q1 := hd.2 1 rfl
  simp only [go_sem, *] at q0 q1
  have r1 := hd.1 1 (by decide +kernel) _ _ rfl
  clear hd
  repeat' first | refine st ?_ | (refine ca ?_; first | apply hw) | (refine br ?_ ?_; all_goals (intro hb; try simp only [bnn] at hb)) | refine sd ?_ | apply pl_nil | (apply c_end; (· decide +kernel)) | refine bd ?_ ?_ | (refine cd ?_; first | apply hw) | fail
  first | exact ⟨trivial, trivial⟩ | exact ⟨rfl, rfl⟩
 case s3 =>
  intro env hd
  have q0 := hd.2 0 rfl
  have q1 := hd.2 1 rfl
  simp only [go_sem, *] at q0 q1
  have r2 := hd.1 2 (by decide +kernel) _ _ rfl
  clear hd
  repeat' first | refine st ?_ | (refine ca ?_; first | apply hw) | (refine br ?_ ?_; all_goals (intro hb; try simp only [bnn] at hb)) | refine sd ?_ | apply pl_nil | (apply c_end; (· decide +kernel)) | refine bd ?_ ?_ | (refine cd ?_; first | apply hw) | fail
  first | exact ⟨trivial, trivial⟩ | exact ⟨rfl, rfl⟩
 case s4 =>
  intro env hd
  have q0 := hd.2 0 rfl
  have q1 := hd.2 1 rfl
  simp only [go_sem, *] at q0 q1
  have r3 := hd.1 3 (by decide +kernel) _ _ rfl
  clear hd
  repeat' first | refine st ?_ | (refine ca ?_; first | apply hw) | (refine br ?_ ?_; all_goals (intro hb; try simp only [bnn] at hb)) | refine sd ?_ | apply pl_nil | (apply c_end; (· decide +kernel)) | refine bd ?_ ?_ | (refine cd ?_; first | apply hw) | fail
  first | exact ⟨trivial, trivial⟩ | exact ⟨rfl, rfl⟩
 case s5 =>
  intro env hd
  have q0 := hd.2 0 rfl
  have q1 := hd.2 1 rfl
  simp only [go_sem, *] at q0 q1
  have r4 := hd.1 4 (by decide +kernel) _ _ rfl
  clear hd
  repeat' first | refine st ?_ | (refine ca ?_; first | apply hw) | (refine br ?_ ?_; all_goals (intro hb; try simp only [bnn] at hb)) | refine sd ?_ | apply pl_nil | (apply c_end; (· decide +kernel)) | refine bd ?_ ?_ | (refine cd ?_; first | apply hw) | fail
  first | exact ⟨trivial, trivial⟩ | exact ⟨rfl, rfl⟩
 case s6 =>
  intro env hd
  have q0 := hd.2 0 rfl
  have q1 := hd.2 1 rfl
  simp only [go_sem, *] at q0 q1
  have r0 := hd.1 0 (by decide +kernel) _ _ rfl
  have r5 := hd.1 5 (by decide +kernel) _ _ rfl
  clear hd
  repeat' first | refine st ?_ | (refine ca ?_; first | apply hw) | (refine br ?_ ?_; all_goals (intro hb; try simp only [bnn] at hb)) | refine sd ?_ | apply pl_nil | (apply c_end; (· decide +kernel)) | refine bd ?_ ?_ | (refine cd ?_; first | apply hw) | fail
  first | exact ⟨trivial, trivial⟩ | exact ⟨rfl, rfl⟩
 case z =>
  intro env hs hk
  have r6 := hs 6 _ _ rfl
  have r7 := hs 7 _ _ rfl
  have r8 := hs 8 _ _ rfl
  have q5 := hk 1000000 rfl
  clear hs hk
  simp only [go_sem] at q5
  repeat' first | refine st ?_ | (refine ca ?_; first | apply k0) | (refine br ?_ ?_; all_goals (intro hb; try simp only [bnn] at hb)) | refine sd ?_ | apply pl_nil | (apply c_end; (· decide +kernel)) | refine bd ?_ ?_ | (refine cd ?_; first | apply k0) | fail
  (apply f_endQ HO.out H.out; (· simp); (· (simp only [go_sem, *]; try rfl)); (· (simp only [go_sem, *]; try rfl)); (· (simp only [go_sem, *, Tryz.results82]; try rfl)))
set_option maxHeartbeats 8000000 in
theorem sTakeW2 (w0 : World) (X : List Blk) (p : Ps) (l : List Ev) (b : Nat) (hl : l.length ≤ 1000000) (hp : PsI p) (hb : b < 256) (hn : notPrint p b) (hs : p.st = 2) (hc : 32 ≤ b ∧ b < 127) (R : Rt) (h : R (.ret (.tup [])) (mach X (goesS p b).1 (l ++ (goesS p b).2))) : ACall Tryz.prog w0 82 [.own X.length 0, .int .u8 b] (mach X p l) R := by
 have c1 := st_cat hn
 obtain ⟨f1, f2, f3, f4, f5, f6⟩ := cat_facts hc
 have k0 := sSigns w0 X p l b hl hp hb
 have hw := sWays w0
 unfold wayV at hw
 unfold goesS at h
 have z : ((2 : Nat) : Int) = 2 := rfl
 clear hl hp hb hn hc
 obtain ⟨s0, utf, pv, fn, pars, inter, text, bad⟩ := p
 simp only at hs c1
 subst hs
 simp only at h
 have H := Lib.hid h
 clear h
 simp only [mach, mcB, evB, z] at k0
 simp only [z] at c1
 clear c1
 refine en Tryz.func82 rfl Tryz.ntmps82 fun hO => ?_
 have HO := Lib.hid hO
 clear hO
 simp only [mach, mcB, evB, z]
 repeat' ((fail_if_success (apply x_stopR 20)); first | refine st ?_ | (refine br ?_ ?_; all_goals (intro hb; try simp only [bnn] at hb)) | fail)
 refine d_draw (n := 10) mixed rfl ?_
 refine d_last [(135, .agg [.fn (.func 216) [] [], .fn (.func 217) [] [], .fn (.func 218) [] [], .fn (.func 219) [] [], .fn (.func 220) [] [], .fn (.func 221) [] [], .fnil, .fnil, .fn (.func 219) [] [], .fn (.func 220) [] [], .fn (.func 221) [] [], .fnil, .fnil, .fnil, .fnil]), (136, (.own X.length 0)), (137, (.own X.length 0)), (138, (.own X.length 0)), (139, (.own X.length 0)), (140, .int .i64 2), (141, .fn (.func 218) [] []), (142, (.own X.length 0)), (143, .int .u8 b)] rfl rfl rfl (by decide +kernel) (by decide +kernel) ⟨?s0, ?s1, ?s2, ?s3, ?s4, ?s5, ?s6, ?s7, ?s8, trivial⟩ ?z
 case s0 | s1 | s7 | s8 =>
  intro env hd
  have q0 := hd.2 0 rfl
  have q1 := hd.2 1 rfl
  simp only [go_sem, *] at q0 q1
  clear hd
  repeat' first | refine st ?_ | (refine ca ?_; first | apply hw) | (refine br ?_ ?_; all_goals (intro hb; try simp only [bnn] at hb)) | refine sd ?_ | apply pl_nil | (apply c_end; (· decide +kernel)) | refine bd ?_ ?_ | (refine cd ?_; first | apply hw) | fail
  first | exact ⟨trivial, trivial⟩ | exact ⟨rfl, rfl⟩
 case s2 =>
  intro env hd
  have q0 := hd.2 0 rfl
  have q1 := hd.2 1 rfl
  simp only [go_sem, *] at q0 q1
  have r1 := hd.1 1 (by decide +kernel) _ _ rfl
  clear hd
  repeat' first | refine st ?_ | (refine ca ?_; first | apply hw) | (refine br ?_ ?_; all_goals (intro hb; try simp only [bnn] at hb)) | refine sd ?_ | apply pl_nil | (apply c_end; (· decide +kernel)) | refine bd ?_ ?_ | (refine cd ?_; first | apply hw) | fail
  first | exact ⟨trivial, trivial⟩ | exact ⟨rfl, rfl⟩
 case s3 =>
  intro env hd
  have q0 := hd.2 0 rfl
  have q1 := hd.2 1 rfl
  simp only [go_sem, *] at q0 q1
  have r2 := hd.1 2 (by decide +kernel) _ _ rfl
  clear hd
  repeat' first | refine st ?_ | (refine ca ?_; first | apply hw) | (refine br ?_ ?_; all_goals (intro hb; try simp only [bnn] at hb)) | refine sd ?_ | apply pl_nil | (apply c_end; (· decide +kernel)) | refine bd ?_ ?_ | (refine cd ?_; first | apply hw) | fail
  first | exact ⟨trivial, trivial⟩ | exact ⟨rfl, rfl⟩
 case s4 =>
  intro env hd
  have q0 := hd.2 0 rfl
  have q1 := hd.2 1 rfl
  simp only [go_sem, *] at q0 q1
  have r3 := hd.1 3 (by decide +kernel) _ _ rfl
  clear hd
  repeat' first | refine st ?_ | (refine ca ?_; first | apply hw) | (refine br ?_ ?_; all_goals (intro hb; try simp only [bnn] at hb)) | refine sd ?_ | apply pl_nil | (apply c_end; (· decide +kernel)) | refine bd ?_ ?_ | (refine cd ?_; first | apply hw) | fail
  first | exact ⟨trivial, trivial⟩ | exact ⟨rfl, rfl⟩
 case s5 =>
  intro env hd
  have q0 := hd.2 0 rfl
  have q1 := hd.2 1 rfl
  simp only [go_sem, *] at q0 q1
  have r4 := hd.1 4 (by decide +kernel) _ _ rfl
  clear hd
  repeat' first | refine st ?_ | (refine ca ?_; first | apply hw) | (refine br ?_ ?_; all_goals (intro hb; try simp only [bnn] at hb)) | refine sd ?_ | apply pl_nil | (apply c_end; (· decide +kernel)) | refine bd ?_ ?_ | (refine cd ?_; first | apply hw) | fail
  first | exact ⟨trivial, trivial⟩ | exact ⟨rfl, rfl⟩
 case s6 =>
  intro env hd
  have q0 := hd.2 0 rfl
  have q1 := hd.2 1 rfl
  simp only [go_sem, *] at q0 q1
  have r0 := hd.1 0 (by decide +kernel) _ _ rfl
  have r5 := hd.1 5 (by decide +kernel) _ _ rfl
  clear hd
  repeat' first | refine st ?_ | (refine ca ?_; first | apply hw) | (refine br ?_ ?_; all_goals (intro hb; try simp only [bnn] at hb)) | refine sd ?_ | apply pl_nil | (apply c_end; (· decide +kernel)) | refine bd ?_ ?_ | (refine cd ?_; first | apply hw) | fail
  first | exact ⟨trivial, trivial⟩ | exact ⟨rfl, rfl⟩
 case z =>
  intro env hs hk
  have r6 := hs 6 _ _ rfl
  have r7 := hs 7 _ _ rfl
  have r8 := hs 8 _ _ rfl
  have q5 := hk 1000000 rfl
  clear hs hk
  simp only [go_sem] at q5
  repeat' first | refine st ?_ | (refine ca ?_; first | apply k0) | (refine br ?_ ?_; all_goals (intro hb; try simp only [bnn] at hb)) | refine sd ?_ | apply pl_nil | (apply c_end; (· decide +kernel)) | refine bd ?_ ?_ | (refine cd ?_; first | apply k0) | fail
  (apply f_endQ HO.out H.out; (· simp); (· (simp only [go_sem, *]; try rfl)); (· (simp only [go_sem, *]; try rfl)); (· (simp only [go_sem, *, Tryz.results82]; try rfl)))
set_option maxHeartbeats 8000000 in
theorem sTakeW3 (w0 : World) (X : List Blk) (p : Ps) (l : List Ev) (b : Nat) (hl : l.length ≤ 1000000) (hp : PsI p) (hb : b < 256) (hn : notPrint p b) (hs : p.st = 3) (hc : 32 ≤ b ∧ b < 127) (R : Rt) (h : R (.ret (.tup [])) (mach X (goesS p b).1 (l ++ (goesS p b).2))) : ACall Tryz.prog w0 82 [.own X.length 0, .int .u8 b] (mach X p l) R := by
 have c1 := st_cat hn
 obtain ⟨f1, f2, f3, f4, f5, f6⟩ := cat_facts hc
 have k0 := sEntry w0 X p l b hl hp hb
 have hw := sWays w0
 unfold wayV at hw
 unfold goesS at h
 have z : ((3 : Nat) : Int) = 3 := rfl
 clear hl hp hb hn hc
 obtain ⟨s0, utf, pv, fn, pars, inter, text, bad⟩ := p
 simp only at hs c1
 subst hs
 simp only at h
 have H := Lib.hid h
 clear h
 simp only [mach, mcB, evB, z] at k0
 simp only [z] at c1
 clear c1
 refine en Tryz.func82 rfl Tryz.ntmps82 fun hO => ?_
 have HO := Lib.hid hO
 clear hO
 simp only [mach, mcB, evB, z]
 repeat' ((fail_if_success (apply x_stopR 20)); first | refine st ?_ | (refine br ?_ ?_; all_goals (intro hb; try simp only [bnn] at hb)) | fail)
 refine d_draw (n := 10) mixed rfl ?_
 refine d_last [(135, .agg [.fn (.func 216) [] [], .fn (.func 217) [] [], .fn (.func 218) [] [], .fn (.func 219) [] [], .fn (.func 220) [] [], .fn (.func 221) [] [], .fnil, .fnil, .fn (.func 219) [] [], .fn (.func 220) [] [], .fn (.func 221) [] [], .fnil, .fnil, .fnil, .fnil]), (136, (.own X.length 0)), (137, (.own X.length 0)), (138, (.own X.length 0)), (139, (.own X.length 0)), (140, .int .i64 3), (141, .fn (.func 219) [] []), (142, (.own X.length 0)), (143, .int .u8 b)] rfl rfl rfl (by decide +kernel) (by decide +kernel) ⟨?s0, ?s1, ?s2, ?s3, ?s4, ?s5, ?s6, ?s7, ?s8, trivial⟩ ?z
 case s0 | s1 | s7 | s8 =>
  intro env hd
  have q0 := hd.2 0 rfl
  have q1 := hd.2 1 rfl
  simp only [go_sem, *] at q0 q1
  clear hd
  repeat' first | refine st ?_ | (refine ca ?_; first | apply hw) | (refine br ?_ ?_; all_goals (intro hb; try simp only [bnn] at hb)) | refine sd ?_ | apply pl_nil | (apply c_end; (· decide +kernel)) | refine bd ?_ ?_ | (refine cd ?_; first | apply hw) | fail
  first | exact ⟨trivial, trivial⟩ | exact ⟨rfl, rfl⟩
 case s2 =>
  intro env hd
  have q0 := hd.2 0 rfl
  have q1 := hd.2 1 rfl
  simp only [go_sem, *] at q0 q1
  have r1 := hd.1 1 (by decide +kernel) _ _ rfl
  clear hd
  repeat' first | refine st ?_ | (refine ca ?_; first | apply hw) | (refine br ?_ ?_; all_goals (intro hb; try simp only [bnn] at hb)) | refine sd ?_ | apply pl_nil | (apply c_end; (· decide +kernel)) | refine bd ?_ ?_ | (refine cd ?_; first | apply hw) | fail
  first | exact ⟨trivial, trivial⟩ | exact ⟨rfl, rfl⟩
 case s3 =>
  intro env hd
  have q0 := hd.2 0 rfl
  have q1 := hd.2 1 rfl
  simp only [go_sem, *] at q0 q1
  have r2 := hd.1 2 (by decide +kernel) _ _ rfl
  clear hd
  repeat' first | refine st ?_ | (refine ca ?_; first | apply hw) | (refine br ?_ ?_; all_goals (intro hb; try simp only [bnn] at hb)) | refine sd ?_ | apply pl_nil | (apply c_end; (· decide +kernel)) | refine bd ?_ ?_ | (refine cd ?_; first | apply hw) | fail
  first | exact ⟨trivial, trivial⟩ | exact ⟨rfl, rfl⟩
 case s4 =>
  intro env hd
  have q0 := hd.2 0 rfl
  have q1 := hd.2 1 rfl
  simp only [go_sem, *] at q0 q1
  have r3 := hd.1 3 (by decide +kernel) _ _ rfl
  clear hd
  repeat' first | refine st ?_ | (refine ca ?_; first | apply hw) | (refine br ?_ ?_; all_goals (intro hb; try simp only [bnn] at hb)) | refine sd ?_ | apply pl_nil | (apply c_end; (· decide +kernel)) | refine bd ?_ ?_ | (refine cd ?_; first | apply hw) | fail
  first | exact ⟨trivial, trivial⟩ | exact ⟨rfl, rfl⟩
 case s5 =>
  intro env hd
  have q0 := hd.2 0 rfl
  have q1 := hd.2 1 rfl
  simp only [go_sem, *] at q0 q1
  have r4 := hd.1 4 (by decide +kernel) _ _ rfl
  clear hd
  repeat' first | refine st ?_ | (refine ca ?_; first | apply hw) | (refine br ?_ ?_; all_goals (intro hb; try simp only [bnn] at hb)) | refine sd ?_ | apply pl_nil | (apply c_end; (· decide +kernel)) | refine bd ?_ ?_ | (refine cd ?_; first | apply hw) | fail
  first | exact ⟨trivial, trivial⟩ | exact ⟨rfl, rfl⟩
 case s6 =>
  intro env hd
  have q0 := hd.2 0 rfl
  have q1 := hd.2 1 rfl
  simp only [go_sem, *] at q0 q1
  have r0 := hd.1 0 (by decide +kernel) _ _ rfl
  have r5 := hd.1 5 (by decide +kernel) _ _ rfl
  clear hd
  repeat' first | refine st ?_ | (refine ca ?_; first | apply hw) | (refine br ?_ ?_; all_goals (intro hb; try simp only [bnn] at hb)) | refine sd ?_ | apply pl_nil | (apply c_end; (· decide +kernel)) | refine bd ?_ ?_ | (refine cd ?_; first | apply hw) | fail
  first | exact ⟨trivial, trivial⟩ | exact ⟨rfl, rfl⟩
 case z =>
  intro env hs hk
  have r6 := hs 6 _ _ rfl
  have r7 := hs 7 _ _ rfl
  have r8 := hs 8 _ _ rfl
  have q5 := hk 1000000 rfl
  clear hs hk
  simp only [go_sem] at q5
  repeat' first | refine st ?_ | (refine ca ?_; first | apply k0) | (refine br ?_ ?_; all_goals (intro hb; try simp only [bnn] at hb)) | refine sd ?_ | apply pl_nil | (apply c_end; (· decide +kernel)) | refine bd ?_ ?_ | (refine cd ?_; first | apply k0) | fail
  (apply f_endQ HO.out H.out; (· simp); (· (simp only [go_sem, *]; try rfl)); (· (simp only [go_sem, *]; try rfl)); (· (simp only [go_sem, *, Tryz.results82]; try rfl)))
set_option maxHeartbeats 8000000 in
theorem sTakeW4 (w0 : World) (X : List Blk) (p : Ps) (l : List Ev) (b : Nat) (hl : l.length ≤ 1000000) (hp : PsI p) (hb : b < 256) (hn : notPrint p b) (hs : p.st = 4) (hc : 32 ≤ b ∧ b < 127) (R : Rt) (h : R (.ret (.tup [])) (mach X (goesS p b).1 (l ++ (goesS p b).2))) : ACall Tryz.prog w0 82 [.own X.length 0, .int .u8 b] (mach X p l) R := by
 have c1 := st_cat hn
 obtain ⟨f1, f2, f3, f4, f5, f6⟩ := cat_facts hc
 have k0 := sParams w0 X p l b hl hp hb
 have hw := sWays w0
 unfold wayV at hw
 unfold goesS at h
 have z : ((4 : Nat) : Int) = 4 := rfl
 clear hl hp hb hn hc
 obtain ⟨s0, utf, pv, fn, pars, inter, text, bad⟩ := p
 simp only at hs c1
 subst hs
 simp only at h
 have H := Lib.hid h
 clear h
 simp only [mach, mcB, evB, z] at k0
 simp only [z] at c1
 clear c1
 refine en Tryz.func82 rfl Tryz.ntmps82 fun hO => ?_
 have HO := Lib.hid hO
 clear hO
 simp only [mach, mcB, evB, z]
 repeat' ((fail_if_success (apply x_stopR 20)); first | refine st ?_ | (refine br ?_ ?_; all_goals (intro hb; try simp only [bnn] at hb)) | fail)
 refine d_draw (n := 10) mixed rfl ?_
 refine d_last [(135, .agg [.fn (.func 216) [] [], .fn (.func 217) [] [], .fn (.func 218) [] [], .fn (.func 219) [] [], .fn (.func 220) [] [], .fn (.func 221) [] [], .fnil, .fnil, .fn (.func 219) [] [], .fn (.func 220) [] [], .fn (.func 221) [] [], .fnil, .fnil, .fnil, .fnil]), (136, (.own X.length 0)), (137, (.own X.length 0)), (138, (.own X.length 0)), (139, (.own X.length 0)), (140, .int .i64 4), (141, .fn (.func 220) [] []), (142, (.own X.length 0)), (143, .int .u8 b)] rfl rfl rfl (by decide +kernel) (by decide +kernel) ⟨?s0, ?s1, ?s2, ?s3, ?s4, ?s5, ?s6, ?s7, ?s8, trivial⟩ ?z
 case s0 | s1 | s7 | s8 =>
  intro env hd
  have q0 := hd.2 0 rfl
  have q1 := hd.2 1 rfl
  simp only [go_sem, *] at q0 q1
  clear hd
  repeat' first | refine st ?_ | (refine ca ?_; first | apply hw) | (refine br ?_ ?_; all_goals (intro hb; try simp only [bnn] at hb)) | refine sd ?_ | apply pl_nil | (apply c_end; (· decide +kernel)) | refine bd ?_ ?_ | (refine cd ?_; first | apply hw) | fail
  first | exact ⟨trivial, trivial⟩ | exact ⟨rfl, rfl⟩
 case s2 =>
  intro env hd
  have q0 := hd.2 0 rfl
  have q1 := hd.2 1 rfl
  simp only [go_sem, *] at q0 q1
  have r1 := hd.1 1 (by decide +kernel) _ _ rfl
  clear hd
  repeat' first | refine st ?_ | (refine ca ?_; first | apply hw) | (refine br ?_ ?_; all_goals (intro hb; try simp only [bnn] at hb)) | refine sd ?_ | apply pl_nil | (apply c_end; (· decide +kernel)) | refine bd ?_ ?_ | (refine cd ?_; first | apply hw) | fail
  first | exact ⟨trivial, trivial⟩ | exact ⟨rfl, rfl⟩
 case s3 =>
  intro env hd
  have q0 := hd.2 0 rfl
  have q1 := hd.2 1 rfl
  simp only [go_sem, *] at q0 q1
  have r2 := hd.1 2 (by decide +kernel) _ _ rfl
  clear hd
  repeat' first | refine st ?_ | (refine ca ?_; first | apply hw) | (refine br ?_ ?_; all_goals (intro hb; try simp only [bnn] at hb)) | refine sd ?_ | apply pl_nil | (apply c_end; (· decide +kernel)) | refine bd ?_ ?_ | (refine cd ?_; first | apply hw) | fail
  first | exact ⟨trivial, trivial⟩ | exact ⟨rfl, rfl⟩
 case s4 =>
  intro env hd
  have q0 := hd.2 0 rfl
  have q1 := hd.2 1 rfl
  simp only [go_sem, *] at q0 q1
  have r3 := hd.1 3 (by decide +kernel) _ _ rfl
  clear hd
  repeat' first | refine st ?_ | (refine ca ?_; first | apply hw) | (refine br ?_ ?_; all_goals (intro hb; try simp only [bnn] at hb)) | refine sd ?_ | apply pl_nil | (apply c_end; (· decide +kernel)) | refine bd ?_ ?_ | (refine cd ?_; first | apply hw) | fail
  first | exact ⟨trivial, trivial⟩ | exact ⟨rfl, rfl⟩
 case s5 =>
  intro env hd
  have q0 := hd.2 0 rfl
  have q1 := hd.2 1 rfl
  simp only [go_sem, *] at q0 q1
  have r4 := hd.1 4 (by decide +kernel) _ _ rfl
  clear hd
  repeat' first | refine st ?_ | (refine ca ?_; first | apply hw) | (refine br ?_ ?_; all_goals (intro hb; try simp only [bnn] at hb)) | refine sd ?_ | apply pl_nil | (apply c_end; (· decide +kernel)) | refine bd ?_ ?_ | (refine cd ?_; first | apply hw) | fail
  first | exact ⟨trivial, trivial⟩ | exact ⟨rfl, rfl⟩
 case s6 =>
  intro env hd
  have q0 := hd.2 0 rfl
  have q1 := hd.2 1 rfl
  simp only [go_sem, *] at q0 q1
  have r0 := hd.1 0 (by decide +kernel) _ _ rfl
  have r5 := hd.1 5 (by decide +kernel) _ _ rfl
  clear hd
  repeat' first | refine st ?_ | (refine ca ?_; first | apply hw) | (refine br ?_ ?_; all_goals (intro hb; try simp only [bnn] at hb)) | refine sd ?_ | apply pl_nil | (apply c_end; (· decide +kernel)) | refine bd ?_ ?_ | (refine cd ?_; first | apply hw) | fail
  first | exact ⟨trivial, trivial⟩ | exact ⟨rfl, rfl⟩
 case z =>
  intro env hs hk
  have r6 := hs 6 _ _ rfl
  have r7 := hs 7 _ _ rfl
  have r8 := hs 8 _ _ rfl
  have q5 := hk 1000000 rfl
  clear hs hk
  simp only [go_sem] at q5
  repeat' first | refine st ?_ | (refine ca ?_; first | apply k0) | (refine br ?_ ?_; all_goals (intro hb; try simp only [bnn] at hb)) | refine sd ?_ | apply pl_nil | (apply c_end; (· decide +kernel)) | refine bd ?_ ?_ | (refine cd ?_; first | apply k0) | fail
  (apply f_endQ HO.out H.out; (· simp); (· (simp only [go_sem, *]; try rfl)); (· (simp only [go_sem, *]; try rfl)); (· (simp only [go_sem, *, Tryz.results82]; try rfl)))
set_option maxHeartbeats 8000000 in
theorem sTakeW5 (w0 : World) (X : List Blk) (p : Ps) (l : List Ev) (b : Nat) (hl : l.length ≤ 1000000) (hp : PsI p) (hb : b < 256) (hn : notPrint p b) (hs : p.st = 5) (hc : 32 ≤ b ∧ b < 127) (R : Rt) (h : R (.ret (.tup [])) (mach X (goesS p b).1 (l ++ (goesS p b).2))) : ACall Tryz.prog w0 82 [.own X.length 0, .int .u8 b] (mach X p l) R := by
 have c1 := st_cat hn
 obtain ⟨f1, f2, f3, f4, f5, f6⟩ := cat_facts hc
 have k0 := sInters w0 X p l b hl hp hb
 have hw := sWays w0
 unfold wayV at hw
 unfold goesS at h
 have z : ((5 : Nat) : Int) = 5 := rfl
 clear hl hp hb hn hc
 obtain ⟨s0, utf, pv, fn, pars, inter, text, bad⟩ := p
 simp only at hs c1
 subst hs
 simp only at h
 have H := Lib.hid h
 clear h
 simp only [mach, mcB, evB, z] at k0
 simp only [z] at c1
 clear c1
 refine en Tryz.func82 rfl Tryz.ntmps82 fun hO => ?_
 have HO := Lib.hid hO
 clear hO
 simp only [mach, mcB, evB, z]
 repeat' ((fail_if_success (apply x_stopR 20)); first | refine st ?_ | (refine br ?_ ?_; all_goals (intro hb; try simp only [bnn] at hb)) | fail)
 refine d_draw (n := 10) mixed rfl ?_
 refine d_last [(135, .agg [.fn (.func 216) [] [], .fn (.func 217) [] [], .fn (.func 218) [] [], .fn (.func 219) [] [], .fn (.func 220) [] [], .fn (.func 221) [] [], .fnil, .fnil, .fn (.func 219) [] [], .fn (.func 220) [] [], .fn (.func 221) [] [], .fnil, .fnil, .fnil, .fnil]), (136, (.own X.length 0)), (137, (.own X.length 0)), (138, (.own X.length 0)), (139, (.own X.length 0)), (140, .int .i64 5), (141, .fn (.func 221) [] []), (142, (.own X.length 0)), (143, .int .u8 b)] rfl rfl rfl (by decide +kernel) (by decide +kernel) ⟨?s0, ?s1, ?s2, ?s3, ?s4, ?s5, ?s6, ?s7, ?s8, trivial⟩ ?z
 case s0 | s1 | s7 | s8 =>
  intro env hd
  have q0 := hd.2 0 rfl
  have q1 := hd.2 1 rfl
  simp only [go_sem, *] at q0 q1
  clear hd
  repeat' first | refine st ?_ | (refine ca ?_; first | apply hw) | (refine br ?_ ?_; all_goals (intro hb; try simp only [bnn] at hb)) | refine sd ?_ | apply pl_nil | (apply c_end; (· decide +kernel)) | refine bd ?_ ?_ | (refine cd ?_; first | apply hw) | fail
  first | exact ⟨trivial, trivial⟩ | exact ⟨rfl, rfl⟩
 case s2 =>
  intro env hd
  have q0 := hd.2 0 rfl
  have q1 := hd.2 1 rfl
  simp only [go_sem, *] at q0 q1
  have r1 := hd.1 1 (by decide +kernel) _ _ rfl
  clear hd
  repeat' first | refine st ?_ | (refine ca ?_; first | apply hw) | (refine br ?_ ?_; all_goals (intro hb; try simp only [bnn] at hb)) | refine sd ?_ | apply pl_nil | (apply c_end; (· decide +kernel)) | refine bd ?_ ?_ | (refine cd ?_; first | apply hw) | fail
  first | exact ⟨trivial, trivial⟩ | exact ⟨rfl, rfl⟩
 case s3 =>
  intro env hd
  have q0 := hd.2 0 rfl
  have q1 := hd.2 1 rfl
  simp only [go_sem, *] at q0 q1
  have r2 := hd.1 2 (by decide +kernel) _ _ rfl
  clear hd
  repeat' first | refine st ?_ | (refine ca ?_; first | apply hw) | (refine br ?_ ?_; all_goals (intro hb; try simp only [bnn] at hb)) | refine sd ?_ | apply pl_nil | (apply c_end; (· decide +kernel)) | refine bd ?_ ?_ | (refine cd ?_; first | apply hw) | fail
  first | exact ⟨trivial, trivial⟩ | exact ⟨rfl, rfl⟩
 case s4 =>
  intro env hd
  have q0 := hd.2 0 rfl
  have q1 := hd.2 1 rfl
  simp only [go_sem, *] at q0 q1
  have r3 := hd.1 3 (by decide +kernel) _ _ rfl
  clear hd
  repeat' first | refine st ?_ | (refine ca ?_; first | apply hw) | (refine br ?_ ?_; all_goals (intro hb; try simp only [bnn] at hb)) | refine sd ?_ | apply pl_nil | (apply c_end; (· decide +kernel)) | refine bd ?_ ?_ | (refine cd ?_; first | apply hw) | fail
  first | exact ⟨trivial, trivial⟩ | exact ⟨rfl, rfl⟩
 case s5 =>
  intro env hd
  have q0 := hd.2 0 rfl
  have q1 := hd.2 1 rfl
  simp only [go_sem, *] at q0 q1
  have r4 := hd.1 4 (by decide +kernel) _ _ rfl
  clear hd
  repeat' first | refine st ?_ | (refine ca ?_; first | apply hw) | (refine br ?_ ?_; all_goals (intro hb; try simp only [bnn] at hb)) | refine sd ?_ | apply pl_nil | (apply c_end; (· decide +kernel)) | refine bd ?_ ?_ | (refine cd ?_; first | apply hw) | fail
  first | exact ⟨trivial, trivial⟩ | exact ⟨rfl, rfl⟩
 case s6 =>
  intro env hd
  have q0 := hd.2 0 rfl
  have q1 := hd.2 1 rfl
  simp only [go_sem, *] at q0 q1
  have r0 := hd.1 0 (by decide +kernel) _ _ rfl
  have r5 := hd.1 5 (by decide +kernel) _ _ rfl
  clear hd
  repeat' first | refine st ?_ | (refine ca ?_; first | apply hw) | (refine br ?_ ?_; all_goals (intro hb; try simp only [bnn] at hb)) | refine sd ?_ | apply pl_nil | (apply c_end; (· decide +kernel)) | refine bd ?_ ?_ | (refine cd ?_; first | apply hw) | fail
  first | exact ⟨trivial, trivial⟩ | exact ⟨rfl, rfl⟩
 case z =>
  intro env hs hk
  have r6 := hs 6 _ _ rfl
  have r7 := hs 7 _ _ rfl
  have r8 := hs 8 _ _ rfl
  have q5 := hk 1000000 rfl
  clear hs hk
  simp only [go_sem] at q5
  repeat' first | refine st ?_ | (refine ca ?_; first | apply k0) | (refine br ?_ ?_; all_goals (intro hb; try simp only [bnn] at hb)) | refine sd ?_ | apply pl_nil | (apply c_end; (· decide +kernel)) | refine bd ?_ ?_ | (refine cd ?_; first | apply k0) | fail
  (apply f_endQ HO.out H.out; (· simp); (· (simp only [go_sem, *]; try rfl)); (· (simp only [go_sem, *]; try rfl)); (· (simp only [go_sem, *, Tryz.results82]; try rfl)))
set_option maxHeartbeats 8000000 in
theorem sTakeW8 (w0 : World) (X : List Blk) (p : Ps) (l : List Ev) (b : Nat) (hl : l.length ≤ 1000000) (hp : PsI p) (hb : b < 256) (hn : notPrint p b) (hs : p.st = 8) (hc : 32 ≤ b ∧ b < 127) (R : Rt) (h : R (.ret (.tup [])) (mach X (goesS p b).1 (l ++ (goesS p b).2))) : ACall Tryz.prog w0 82 [.own X.length 0, .int .u8 b] (mach X p l) R := by
 have c1 := st_cat hn
 obtain ⟨f1, f2, f3, f4, f5, f6⟩ := cat_facts hc
 have k0 := sEntry w0 X p l b hl hp hb
 have hw := sWays w0
 unfold wayV at hw
 unfold goesS at h
 have z : ((8 : Nat) : Int) = 8 := rfl
 clear hl hp hb hn hc
 obtain ⟨s0, utf, pv, fn, pars, inter, text, bad⟩ := p
 simp only at hs c1
 subst hs
 simp only at h
 have H := Lib.hid h
 clear h
 simp only [mach, mcB, evB, z] at k0
 simp only [z] at c1
 clear c1
 refine en Tryz.func82 rfl Tryz.ntmps82 fun hO => ?_
 have HO := Lib.hid hO
 clear hO
 simp only [mach, mcB, evB, z]
 repeat' ((fail_if_success (apply x_stopR 20)); first | refine st ?_ | (refine br ?_ ?_; all_goals (intro hb; try simp only [bnn] at hb)) | fail)
 refine d_draw (n := 10) mixed rfl ?_
 refine d_last [(135, .agg [.fn (.func 216) [] [], .fn (.func 217) [] [], .fn (.func 218) [] [], .fn (.func 219) [] [], .fn (.func 220) [] [], .fn (.func 221) [] [], .fnil, .fnil, .fn (.func 219) [] [], .fn (.func 220) [] [], .fn (.func 221) [] [], .fnil, .fnil, .fnil, .fnil]), (136, (.own X.length 0)), (137, (.own X.length 0)), (138, (.own X.length 0)), (139, (.own X.length 0)), (140, .int .i64 8), (141, .fn (.func 219) [] []), (142, (.own X.length 0)), (143, .int .u8 b)] rfl rfl rfl (by decide +kernel) (by decide +kernel) ⟨?s0, ?s1, ?s2, ?s3, ?s4, ?s5, ?s6, ?s7, ?s8, trivial⟩ ?z
 case s0 | s1 | s7 | s8 =>
  intro env hd
  have q0 := hd.2 0 rfl
  have q1 := hd.2 1 rfl
  simp only [go_sem, *] at q0 q1
  clear hd
  repeat' first | refine st ?_ | (refine ca ?_; first | apply hw) | (refine br ?_ ?_; all_goals (intro hb; try simp only [bnn] at hb)) | refine sd ?_ | apply pl_nil | (apply c_end; (· decide +kernel)) | refine bd ?_ ?_ | (refine cd ?_; first | apply hw) | fail
  first | exact ⟨trivial, trivial⟩ | exact ⟨rfl, rfl⟩
 case s2 =>
  intro env hd
  have q0 := hd.2 0 rfl
  have q1 := hd.2 1 rfl
  simp only [go_sem, *] at q0 q1
  have r1 := hd.1 1 (by decide +kernel) _ _ rfl
  clear hd
  repeat' first | refine st ?_ | (refine ca ?_; first | apply hw) | (refine br ?_ ?_; all_goals (intro hb; try simp only [bnn] at hb)) | refine sd ?_ | apply pl_nil | (apply c_end; (· decide +kernel)) | refine bd ?_ ?_ | (refine cd ?_; first | apply hw) | fail
  first | exact ⟨trivial, trivial⟩ | exact ⟨rfl, rfl⟩
 case s3 =>
  intro env hd
  have q0 := hd.2 0 rfl
  have q1 := hd.2 1 rfl
  simp only [go_sem, *] at q0 q1
  have r2 := hd.1 2 (by decide +kernel) _ _ rfl
  clear hd
  repeat' first | refine st ?_ | (refine ca ?_; first | apply hw) | (refine br ?_ ?_; all_goals (intro hb; try simp only [bnn] at hb)) | refine sd ?_ | apply pl_nil | (apply c_end; (· decide +kernel)) | refine bd ?_ ?_ | (refine cd ?_; first | apply hw) | fail
  first | exact ⟨trivial, trivial⟩ | exact ⟨rfl, rfl⟩
 case s4 =>
  intro env hd
  have q0 := hd.2 0 rfl
  have q1 := hd.2 1 rfl
  simp only [go_sem, *] at q0 q1
  have r3 := hd.1 3 (by decide +kernel) _ _ rfl
  clear hd
  repeat' first | refine st ?_ | (refine ca ?_; first | apply hw) | (refine br ?_ ?_; all_goals (intro hb; try simp only [bnn] at hb)) | refine sd ?_ | apply pl_nil | (apply c_end; (· decide +kernel)) | refine bd ?_ ?_ | (refine cd ?_; first | apply hw) | fail
  first | exact ⟨trivial, trivial⟩ | exact ⟨rfl, rfl⟩
 case s5 =>
  intro env hd
  have q0 := hd.2 0 rfl
  have q1 := hd.2 1 rfl
  simp only [go_sem, *] at q0 q1
  have r4 := hd.1 4 (by decide +kernel) _ _ rfl
  clear hd
  repeat' first | refine st ?_ | (refine ca ?_; first | apply hw) | (refine br ?_ ?_; all_goals (intro hb; try simp only [bnn] at hb)) | refine sd ?_ | apply pl_nil | (apply c_end; (· decide +kernel)) | refine bd ?_ ?_ | (refine cd ?_; first | apply hw) | fail
  first | exact ⟨trivial, trivial⟩ | exact ⟨rfl, rfl⟩
 case s6 =>
  intro env hd
  have q0 := hd.2 0 rfl
  have q1 := hd.2 1 rfl
  simp only [go_sem, *] at q0 q1
  have r0 := hd.1 0 (by decide +kernel) _ _ rfl
  have r5 := hd.1 5 (by decide +kernel) _ _ rfl
  clear hd
  repeat' first | refine st ?_ | (refine ca ?_; first | apply hw) | (refine br ?_ ?_; all_goals (intro hb; try simp only [bnn] at hb)) | refine sd ?_ | apply pl_nil | (apply c_end; (· decide +kernel)) | refine bd ?_ ?_ | (refine cd ?_; first | apply hw) | fail
  first | exact ⟨trivial, trivial⟩ | exact ⟨rfl, rfl⟩
 case z =>
  intro env hs hk
  have r6 := hs 6 _ _ rfl
  have r7 := hs 7 _ _ rfl
  have r8 := hs 8 _ _ rfl
  have q5 := hk 1000000 rfl
  clear hs hk
  simp only [go_sem] at q5
  repeat' first | refine st ?_ | (refine ca ?_; first | apply k0) | (refine br ?_ ?_; all_goals (intro hb; try simp only [bnn] at hb)) | refine sd ?_ | apply pl_nil | (apply c_end; (· decide +kernel)) | refine bd ?_ ?_ | (refine cd ?_; first | apply k0) | fail
  (apply f_endQ HO.out H.out; (· simp); (· (simp only [go_sem, *]; try rfl)); (· (simp only [go_sem, *]; try rfl)); (· (simp only [go_sem, *, Tryz.results82]; try rfl)))
set_option maxHeartbeats 8000000 in
theorem sTakeW9 (w0 : World) (X : List Blk) (p : Ps) (l : List Ev) (b : Nat) (hl : l.length ≤ 1000000) (hp : PsI p) (hb : b < 256) (hn : notPrint p b) (hs : p.st = 9) (hc : 32 ≤ b ∧ b < 127) (R : Rt) (h : R (.ret (.tup [])) (mach X (goesS p b).1 (l ++ (goesS p b).2))) : ACall Tryz.prog w0 82 [.own X.length 0, .int .u8 b] (mach X p l) R := by
 have c1 := st_cat hn
 obtain ⟨f1, f2, f3, f4, f5, f6⟩ := cat_facts hc
 have k0 := sParams w0 X p l b hl hp hb
 have hw := sWays w0
 unfold wayV at hw
 unfold goesS at h
 have z : ((9 : Nat) : Int) = 9 := rfl
 clear hl hp hb hn hc
 obtain ⟨s0, utf, pv, fn, pars, inter, text, bad⟩ := p
 simp only at hs c1
 subst hs
 simp only at h
 have H := Lib.hid h
 clear h
 simp only [mach, mcB, evB, z] at k0
 simp only [z] at c1
 clear c1
 refine en Tryz.func82 rfl Tryz.ntmps82 fun hO => ?_
 have HO := Lib.hid hO
 clear hO
 simp only [mach, mcB, evB, z]
 repeat' ((fail_if_success (apply x_stopR 20)); first | refine st ?_ | (refine br ?_ ?_; all_goals (intro hb; try simp only [bnn] at hb)) | fail)
 refine d_draw (n := 10) mixed rfl ?_
 refine d_last [(135, .agg [.fn (.func 216) [] [], .fn (.func 217) [] [], .fn (.func 218) [] [], .fn (.func 219) [] [], .fn (.func 220) [] [], .fn (.func 221) [] [], .fnil, .fnil, .fn (.func 219) [] [], .fn (.func 220) [] [], .fn (.func 221) [] [], .fnil, .fnil, .fnil, .fnil]), (136, (.own X.length 0)), (137, (.own X.length 0)), (138, (.own X.length 0)), (139, (.own X.length 0)), (140, .int .i64 9), (141, .fn (.func 220) [] []), (142, (.own X.length 0)), (143, .int .u8 b)] rfl rfl rfl (by decide +kernel) (by decide +kernel) ⟨?s0, ?s1, ?s2, ?s3, ?s4, ?s5, ?s6, ?s7, ?s8, trivial⟩ ?z
 case s0 | s1 | s7 | s8 =>
  intro env hd
  have q0 := hd.2 0 rfl
  have q1 := hd.2 1 rfl
  simp only [go_sem, *] at q0 q1
  clear hd
  repeat' first | refine st ?_ | (refine ca ?_; first | apply hw) | (refine br ?_ ?_; all_goals (intro hb; try simp only [bnn] at hb)) | refine sd ?_ | apply pl_nil | (apply c_end; (· decide +kernel)) | refine bd ?_ ?_ | (refine cd ?_; first | apply hw) | fail
  first | exact ⟨trivial, trivial⟩ | exact ⟨rfl, rfl⟩
 case s2 =>
  intro env hd
  have q0 := hd.2 0 rfl
  have q1 := hd.2 1 rfl
  simp only [go_sem, *] at q0 q1
  have r1 := hd.1 1 (by decide +kernel) _ _ rfl
  clear hd
  repeat' first | refine st ?_ | (refine ca ?_; first | apply hw) | (refine br ?_ ?_; all_goals (intro hb; try simp only [bnn] at hb)) | refine sd ?_ | apply pl_nil | (apply c_end; (· decide +kernel)) | refine bd ?_ ?_ | (refine cd ?_; first | apply hw) | fail
  first | exact ⟨trivial, trivial⟩ | exact ⟨rfl, rfl⟩
 case s3 =>
  intro env hd
  have q0 := hd.2 0 rfl
  have q1 := hd.2 1 rfl
  simp only [go_sem, *] at q0 q1
  have r2 := hd.1 2 (by decide +kernel) _ _ rfl
  clear hd
  repeat' first | refine st ?_ | (refine ca ?_; first | apply hw) | (refine br ?_ ?_; all_goals (intro hb; try simp only [bnn] at hb)) | refine sd ?_ | apply pl_nil | (apply c_end; (· decide +kernel)) | refine bd ?_ ?_ | (refine cd ?_; first | apply hw) | fail
  first | exact ⟨trivial, trivial⟩ | exact ⟨rfl, rfl⟩
 case s4 =>
  intro env hd
  have q0 := hd.2 0 rfl
  have q1 := hd.2 1 rfl
  simp only [go_sem, *] at q0 q1
  have r3 := hd.1 3 (by decide +kernel) _ _ rfl
  clear hd
  repeat' first | refine st ?_ | (refine ca ?_; first | apply hw) | (refine br ?_ ?_; all_goals (intro hb; try simp only [bnn] at hb)) | refine sd ?_ | apply pl_nil | (apply c_end; (· decide +kernel)) | refine bd ?_ ?_ | (refine cd ?_; first | apply hw) | fail
  first | exact ⟨trivial, trivial⟩ | exact ⟨rfl, rfl⟩
 case s5 =>
  intro env hd
  have q0 := hd.2 0 rfl
  have q1 := hd.2 1 rfl
  simp only [go_sem, *] at q0 q1
  have r4 := hd.1 4 (by decide +kernel) _ _ rfl
  clear hd
  repeat' first | refine st ?_ | (refine ca ?_; first | apply hw) | (refine br ?_ ?_; all_goals (intro hb; try simp only [bnn] at hb)) | refine sd ?_ | apply pl_nil | (apply c_end; (· decide +kernel)) | refine bd ?_ ?_ | (refine cd ?_; first | apply hw) | fail
  first | exact ⟨trivial, trivial⟩ | exact ⟨rfl, rfl⟩
 case s6 =>
  intro env hd
  have q0 := hd.2 0 rfl
  have q1 := hd.2 1 rfl
  simp only [go_sem, *] at q0 q1
  have r0 := hd.1 0 (by decide +kernel) _ _ rfl
  have r5 := hd.1 5 (by decide +kernel) _ _ rfl
  clear hd
  repeat' first | refine st ?_ | (refine ca ?_; first | apply hw) | (refine br ?_ ?_; all_goals (intro hb; try simp only [bnn] at hb)) | refine sd ?_ | apply pl_nil | (apply c_end; (· decide +kernel)) | refine bd ?_ ?_ | (refine cd ?_; first | apply hw) | fail
  first | exact ⟨trivial, trivial⟩ | exact ⟨rfl, rfl⟩
 case z =>
  intro env hs hk
  have r6 := hs 6 _ _ rfl
  have r7 := hs 7 _ _ rfl
  have r8 := hs 8 _ _ rfl
  have q5 := hk 1000000 rfl
  clear hs hk
  simp only [go_sem] at q5
  repeat' first | refine st ?_ | (refine ca ?_; first | apply k0) | (refine br ?_ ?_; all_goals (intro hb; try simp only [bnn] at hb)) | refine sd ?_ | apply pl_nil | (apply c_end; (· decide +kernel)) | refine bd ?_ ?_ | (refine cd ?_; first | apply k0) | fail
  (apply f_endQ HO.out H.out; (· simp); (· (simp only [go_sem, *]; try rfl)); (· (simp only [go_sem, *]; try rfl)); (· (simp only [go_sem, *, Tryz.results82]; try rfl)))
set_option maxHeartbeats 8000000 in
theorem sTakeW10 (w0 : World) (X : List Blk) (p : Ps) (l : List Ev) (b : Nat) (hl : l.length ≤ 1000000) (hp : PsI p) (hb : b < 256) (hn : notPrint p b) (hs : p.st = 10) (hc : 32 ≤ b ∧ b < 127) (R : Rt) (h : R (.ret (.tup [])) (mach X (goesS p b).1 (l ++ (goesS p b).2))) : ACall Tryz.prog w0 82 [.own X.length 0, .int .u8 b] (mach X p l) R := by
 have c1 := st_cat hn
 obtain ⟨f1, f2, f3, f4, f5, f6⟩ := cat_facts hc
 have k0 := sInters w0 X p l b hl hp hb
 have hw := sWays w0
 unfold wayV at hw
 unfold goesS at h
 have z : ((10 : Nat) : Int) = 10 := rfl
 clear hl hp hb hn hc
 obtain ⟨s0, utf, pv, fn, pars, inter, text, bad⟩ := p
 simp only at hs c1
 subst hs
 simp only at h
 have H := Lib.hid h
 clear h
 simp only [mach, mcB, evB, z] at k0
 simp only [z] at c1
 clear c1
 refine en Tryz.func82 rfl Tryz.ntmps82 fun hO => ?_
 have HO := Lib.hid hO
 clear hO
 simp only [mach, mcB, evB, z]
 repeat' ((fail_if_success (apply x_stopR 20)); first | refine st ?_ | (refine br ?_ ?_; all_goals (intro hb; try simp only [bnn] at hb)) | fail)
 refine d_draw (n := 10) mixed rfl ?_
 refine d_last [(135, .agg [.fn (.func 216) [] [], .fn (.func 217) [] [], .fn (.func 218) [] [], .fn (.func 219) [] [], .fn (.func 220) [] [], .fn (.func 221) [] [], .fnil, .fnil, .fn (.func 219) [] [], .fn (.func 220) [] [], .fn (.func 221) [] [], .fnil, .fnil, .fnil, .fnil]), (136, (.own X.length 0)), (137, (.own X.length 0)), (138, (.own X.length 0)), (139, (.own X.length 0)), (140, .int .i64 10), (141, .fn (.func 221) [] []), (142, (.own X.length 0)), (143, .int .u8 b)] rfl rfl rfl (by decide +kernel) (by decide +kernel) ⟨?s0, ?s1, ?s2, ?s3, ?s4, ?s5, ?s6, ?s7, ?s8, trivial⟩ ?z
 case s0 | s1 | s7 | s8 =>
  intro env hd
  have q0 := hd.2 0 rfl
  have q1 := hd.2 1 rfl
  simp only [go_sem, *] at q0 q1
  clear hd
  repeat' first | refine st ?_ | (refine ca ?_; first | apply hw) | (refine br ?_ ?_; all_goals (intro hb; try simp only [bnn] at hb)) | refine sd ?_ | apply pl_nil | (apply c_end; (· decide +kernel)) | refine bd ?_ ?_ | (refine cd ?_; first | apply hw) | fail
  first | exact ⟨trivial, trivial⟩ | exact ⟨rfl, rfl⟩
 case s2 =>
  intro env hd
  have q0 := hd.2 0 rfl
  have q1 := hd.2 1 rfl
  simp only [go_sem, *] at q0 q1
  have r1 := hd.1 1 (by decide +kernel) _ _ rfl
  clear hd
  repeat' first | refine st ?_ | (refine ca ?_; first | apply hw) | (refine br ?_ ?_; all_goals (intro hb; try simp only [bnn] at hb)) | refine sd ?_ | apply pl_nil | (apply c_end; (· decide +kernel)) | refine bd ?_ ?_ | (refine cd ?_; first | apply hw) | fail
  first | exact ⟨trivial, trivial⟩ | exact ⟨rfl, rfl⟩
 case s3 =>
  intro env hd
  have q0 := hd.2 0 rfl
  have q1 := hd.2 1 rfl
  simp only [go_sem, *] at q0 q1
  have r2 := hd.1 2 (by decide +kernel) _ _ rfl
  clear hd
  repeat' first | refine st ?_ | (refine ca ?_; first | apply hw) | (refine br ?_ ?_; all_goals (intro hb; try simp only [bnn] at hb)) | refine sd ?_ | apply pl_nil | (apply c_end; (· decide +kernel)) | refine bd ?_ ?_ | (refine cd ?_; first | apply hw) | fail
  first | exact ⟨trivial, trivial⟩ | exact ⟨rfl, rfl⟩
 case s4 =>
  intro env hd
  have q0 := hd.2 0 rfl
  have q1 := hd.2 1 rfl
  simp only [go_sem, *] at q0 q1
  have r3 := hd.1 3 (by decide +kernel) _ _ rfl
  clear hd
  repeat' first | refine st ?_ | (refine ca ?_; first | apply hw) | (refine br ?_ ?_; all_goals (intro hb; try simp only [bnn] at hb)) | refine sd ?_ | apply pl_nil | (apply c_end; (· decide +kernel)) | refine bd ?_ ?_ | (refine cd ?_; first | apply hw) | fail
  first | exact ⟨trivial, trivial⟩ | exact ⟨rfl, rfl⟩
 case s5 =>
  intro env hd
  have q0 := hd.2 0 rfl
  have q1 := hd.2 1 rfl
  simp only [go_sem, *] at q0 q1
  have r4 := hd.1 4 (by decide +kernel) _ _ rfl
  clear hd
  repeat' first | refine st ?_ | (refine ca ?_; first | apply hw) | (refine br ?_ ?_; all_goals (intro hb; try simp only [bnn] at hb)) | refine sd ?_ | apply pl_nil | (apply c_end; (· decide +kernel)) | refine bd ?_ ?_ | (refine cd ?_; first | apply hw) | fail
  first | exact ⟨trivial, trivial⟩ | exact ⟨rfl, rfl⟩
 case s6 =>
  intro env hd
  have q0 := hd.2 0 rfl
  have q1 := hd.2 1 rfl
  simp only [go_sem, *] at q0 q1
  have r0 := hd.1 0 (by decide +kernel) _ _ rfl
  have r5 := hd.1 5 (by decide +kernel) _ _ rfl
  clear hd
  repeat' first | refine st ?_ | (refine ca ?_; first | apply hw) | (refine br ?_ ?_; all_goals (intro hb; try simp only [bnn] at hb)) | refine sd ?_ | apply pl_nil | (apply c_end; (· decide +kernel)) | refine bd ?_ ?_ | (refine cd ?_; first | apply hw) | fail
  first | exact ⟨trivial, trivial⟩ | exact ⟨rfl, rfl⟩
 case z =>
  intro env hs hk
  have r6 := hs 6 _ _ rfl
  have r7 := hs 7 _ _ rfl
  have r8 := hs 8 _ _ rfl
  have q5 := hk 1000000 rfl
  clear hs hk
  simp only [go_sem] at q5
  repeat' first | refine st ?_ | (refine ca ?_; first | apply k0) | (refine br ?_ ?_; all_goals (intro hb; try simp only [bnn] at hb)) | refine sd ?_ | apply pl_nil | (apply c_end; (· decide +kernel)) | refine bd ?_ ?_ | (refine cd ?_; first | apply k0) | fail
  (apply f_endQ HO.out H.out; (· simp); (· (simp only [go_sem, *]; try rfl)); (· (simp only [go_sem, *]; try rfl)); (· (simp only [go_sem, *, Tryz.results82]; try rfl)))
theorem sTakeN (w0 : World) (X : List Blk) (p : Ps) (l : List Ev) (b : Nat) (hl : l.length ≤ 1000000) (hp : PsI p) (hb : b < 256) (hn : notPrint p b) (he : inEsc p.st = true → b = 24 ∨ b = 26 ∨ b = 27) (ht : inText p.st = true ∨ b < 128 ∨ b = 24 ∨ b = 26 ∨ b = 27) (R : Rt) (h : R (.ret (.tup [])) (mach X (take1 p b).1 (l ++ (take1 p b).2))) : ACall Tryz.prog w0 82 [.own X.length 0, .int .u8 b] (mach X p l) R := by
 have hnn := hn
 unfold notPrint at hnn
 unfold take1 at h
 rw [if_neg hnn] at h
 by_cases c1 : b = 24 ∨ b = 26
 ·rw [if_pos c1] at h
  simp only [List.append_nil] at h
  exact sTakeA1 w0 X p l b hl hp hb hn c1 R h
 rw [if_neg c1] at h
 by_cases c2 : b = 27
 ·rw [if_pos c2] at h
  cases hx : inText p.st with
  | true =>
   rw [hx] at h
   simp only [if_true, List.append_nil] at h
   exact sTakeA2 w0 X p l b hl hp hb hn c2 hx R h
  | false =>
   rw [hx] at h
   simp only [Bool.false_eq_true, if_false, List.append_nil] at h
   exact sTakeA3 w0 X p l b hl hp hb hn c2 hx R h
 rw [if_neg c2] at h
 have c3 : b ≠ 24 ∧ b ≠ 26 ∧ b ≠ 27 := by omega
 have he' : inEsc p.st = false := by
  cases hx : inEsc p.st with
  | false => rfl
  | true => have := he hx; omega
 cases hx : inText p.st with
 | true =>
  rw [hx] at h
  simp only [if_true] at h
  exact sTakeA4 w0 X p l b hl hp hb hn c3 hx R h
 | false =>
  have hb1 : b < 128 := by
   rcases ht with ht | ht
   ·rw [hx] at ht; cases ht
   ·omega
  rw [hx, if_neg (by decide), if_neg (by omega)] at h
  by_cases c4 : b < 32
  ·rw [if_pos c4] at h
   exact sTakeA5 w0 X p l b hl hp hb hn c3 c4 hx he' R h
  rw [if_neg c4] at h
  by_cases c5 : b = 127
  ·rw [if_pos c5] at h
   simp only [List.append_nil] at h
   exact sTakeA6 w0 X p l b hl hp hb hn c5 hx he' R h
  rw [if_neg c5] at h
  have hs := hp.st
  have hc : 32 ≤ b ∧ b < 127 := by omega
  have hst : p.st = 0 ∨ p.st = 1 ∨ p.st = 2 ∨ p.st = 3 ∨ p.st = 4 ∨ p.st = 5 ∨ p.st = 8 ∨ p.st = 9 ∨ p.st = 10 := by
   unfold inText at hx
   unfold inEsc at he'
   simp only [Bool.or_eq_false_iff, beq_eq_false_iff_ne] at hx he'
   omega
  rcases hst with hst | hst | hst | hst | hst | hst | hst | hst | hst
  ·exact sTakeW0 w0 X p l b hl hp hb hn hst hc R h
  ·exact sTakeW1 w0 X p l b hl hp hb hn hst hc R h
  ·exact sTakeW2 w0 X p l b hl hp hb hn hst hc R h
  ·exact sTakeW3 w0 X p l b hl hp hb hn hst hc R h
  ·exact sTakeW4 w0 X p l b hl hp hb hn hst hc R h
  ·exact sTakeW5 w0 X p l b hl hp hb hn hst hc R h
  ·exact sTakeW8 w0 X p l b hl hp hb hn hst hc R h
  ·exact sTakeW9 w0 X p l b hl hp hb hn hst hc R h
  ·exact sTakeW10 w0 X p l b hl hp hb hn hst hc R h
theorem ctl_take {c : Nat} (h : c < 32 ∨ c = 127) : take1 (begS 0) c = ctlS c := by
 have e : (begS 0).st = 0 := rfl
 have e2 : (begS 0).utf = [] := rfl
 unfold take1 ctlS
 rw [e, e2, if_neg (by simp; omega)]
 split
 ·rfl
 ·next h1 =>
  split
  ·rfl
  ·next h2 =>
   rw [if_neg (by decide), if_neg (by omega)]
   split
   ·rfl
   ·next h3 => rw [if_pos (by omega)]
theorem sCtl (w0 : World) (X : List Blk) (l : List Ev) (c : Nat) (hl : l.length ≤ 1000000) (hc : c < 32 ∨ c = 127) (R : Rt) (h : R (.ret (.tup [])) (mach X (ctlS c).1 (l ++ (ctlS c).2))) : ACall Tryz.prog w0 82 [.own X.length 0, .int .u8 c] (mach X (begS 0) l) R := by
 rw [← ctl_take hc] at h
 refine sTakeN w0 X (begS 0) l c hl (PsI.beg (by decide)) (by omega) ?_ (fun h => by cases h) (by omega) R h
 unfold notPrint
 have e2 : (begS 0).utf = [] := rfl
 rw [e2]
 simp
 omega
theorem ctl_at {p : List Nat} {b i c : Nat} (h : (stepU p b).2[i]? = some c) (hc : c < 32 ∨ c = 127) : (((stepU p b).2.take i).foldl codeS ({ begS 0 with utf := (stepU p b).1 }, [])).1 = begS 0 := by
 have key : ∀ (q : List Nat × List Nat), q.2[i]? = some c → (q.1 = [] ∧ (q.2 = [c] ∨ q.2 = [65533, c])) → ((q.2.take i).foldl codeS ({ begS 0 with utf := q.1 }, [])).1 = begS 0 := by
  rintro q hq ⟨h1, h2 | h2⟩
  ·rw [h2] at hq ⊢
   match i, hq with
   | 0, _ => rw [h1]; rfl
   | n + 1, hq => simp at hq
  ·rw [h2] at hq ⊢
   match i, hq with
   | 0, hq => simp at hq; omega
   | 1, _ => rw [h1]; rfl
   | n + 2, hq => simp at hq
 refine key _ h ?_
 have one : ∀ {x : Nat}, [x][i]? = some c → x = c := by
  intro x hx
  match i, hx with
  | 0, hx => simpa using hx
  | n + 1, hx => simp at hx
 revert h
 unfold stepU
 split
 ·intro h; exact ⟨rfl, .inl (by rw [one h])⟩
 ·split
  ·intro h; simp at h
  ·split
   ·intro h; have := one h; omega
   ·unfold step1
    split
    ·intro h
     refine ⟨rfl, .inr ?_⟩
     simp only at h
     match i, h with
     | 0, h => simp at h; omega
     | 1, h => simp at h; rw [h]
     | n + 2, h => simp at h
    ·split
     ·intro h; have := one h; omega
     ·intro h
      simp only at h
      match i, h with
      | 0, h => simp at h; omega
      | 1, h => simp at h; omega
      | n + 2, h => simp at h
theorem sOutside (w0 : World) (S : List Blk) (a b c : Int) (R : Rt) (h : R (.ret (.bool (decide (a < b) || decide (c < a)))) S) : ACall Tryz.prog w0 165 [.int .u8 a, .int .u8 b, .int .u8 c] S R := by
 cases d : decide (a < b) <;> rw [d] at h
 all_goals
  refine en Tryz.func165 rfl Tryz.ntmps165 fun hO => ?_
  repeat' first | refine st ?_ | (refine br ?_ ?_; all_goals (intro hb; try simp only [bnn] at hb)) | fail
  (apply f_ret; iterate 7 (· simp only [go_sem, *, Tryz.results165]; try rfl))
  first | exact h | (simpa using h)
theorem codeS_len (q : Ps × List Ev) (c : Nat) : (codeS q c).2.length ≤ q.2.length + 1 := by
 unfold codeS ctlS
 repeat' split
 all_goals simp
theorem codes_len : ∀ (l : List Nat) (q : Ps × List Ev), (l.foldl codeS q).2.length ≤ q.2.length + l.length
 | [], _ => by simp
 | c :: l, q => by
  have := codes_len l (codeS q c)
  have := codeS_len q c
  simp only [List.foldl_cons, List.length_cons]; omega
theorem fold_succ {l : List Nat} {i c : Nat} (q : Ps × List Ev) (h : l[i]? = some c) : (l.take (i + 1)).foldl codeS q = codeS ((l.take i).foldl codeS q) c := by
 rw [List.take_add_one, h]
 simp
set_option maxHeartbeats 8000000 in
theorem sPrint (w0 : World) (X : List Blk) (p : Ps) (l : List Ev) (b : Nat) (hl : l.length ≤ 900000) (hp : PsI p) (hb : b < 256) (R : Rt) (h : R (.ret (.tup [])) (mach X (printS p b).1 (l ++ (printS p b).2))) : ACall Tryz.prog w0 166 [.own X.length 0, .int .u8 b] (mach X p l) R := by
 have hst := fun S' => uStep w0 S' p.utf b hb hp.utf hp.byt
 have k0 := sBegin w0 X p l 0
 have hq2 := step_codes p.utf b
 have hctl := fun i c => ctl_at (p := p.utf) (b := b) (i := i) (c := c)
 unfold printS at h
 generalize stepU p.utf b = q at h hst hq2 hctl
 obtain ⟨q1, q2⟩ := q
 unfold stepV at hst
 simp only at h hst hq2 hctl
 simp only [mach, mcB, evB] at k0
 have H := Lib.hid h
 have Hq := Lib.hid hq2
 have Hc := Lib.hid hctl
 have Hl := Lib.hid hl
 clear h hp hb hq2 hctl hl
 refine en Tryz.func166 rfl Tryz.ntmps166 fun hO => ?_
 have HO := Lib.hid hO
 clear hO
 unfold mach mcB evB
 repeat' first | refine st ?_ | (refine ca ?_; first | apply hst | apply k0) | (refine br ?_ ?_; all_goals (intro hb; try simp only [bnn] at hb)) | fail
 refine x_ind (fun (i : Nat) env S' => i ≤ q2.length ∧ env 1000000 = .dfr [] ∧ env 0 = .own X.length 0 ∧ env 25 = .sval false (q2.map Co) ∧ env 26 = .int .i64 q2.length ∧ env 27 = .int .i64 (i : Int) ∧ S' = mach X ((q2.take i).foldl codeS ({ begS 0 with utf := q1 }, [])).1 (l ++ ((q2.take i).foldl codeS ({ begS 0 with utf := q1 }, [])).2)) (fun i => q2.length - i) 0 ?_ ?_
 ·exact ⟨Nat.zero_le _, by (simp only [go_sem, *]; try rfl), by (simp only [go_sem, *]; try rfl), by (simp only [go_sem, *]; try rfl), by (simp only [go_sem, *]; try rfl), by (simp only [go_sem, *]; try rfl), by simp only [List.take_zero, List.foldl_nil, List.append_nil]; rfl⟩
 ·rintro i env S' ⟨hi, e0, f0, f25, f26, f27, rfl⟩ IH
  have HI := Lib.hid IH
  clear IH hst k0
  by_cases hlt : i < q2.length
  ·obtain ⟨c, hx⟩ : ∃ c, q2[i]? = some c := ⟨_, List.getElem?_eq_getElem hlt⟩
   have h1 : decide ((i : Int) < (q2.length : Int)) = true := by simpa using hlt
   have hco : Co c = .int .i64 c := rfl
   have hq := Hq.out
   have hc21 := hq.1 c (List.mem_of_getElem? hx)
   have hw : IntKind.i64.wrap ((i : Int) + 1) = ((i + 1 : Nat) : Int) := by rw [IntWalk.i64_in _ (by omega)]; omega
   have hsu := fold_succ ({ begS 0 with utf := q1 }, []) hx
   have hct := Hc.out i c hx
   have hcl := codes_len (q2.take i) ({ begS 0 with utf := q1 }, [])
   have htk : (q2.take i).length ≤ i := List.length_take_le _ _
   simp only [List.length_nil, Nat.zero_add] at hcl
   generalize (q2.take i).foldl codeS ({ begS 0 with utf := q1 }, []) = y at hsu hct hcl
   obtain ⟨y1, y2⟩ := y
   simp only at hct hcl
   have hl2 : (l ++ y2).length ≤ 1000000 := by have := Hl.out; rw [List.length_append]; omega
   have Hsu := Lib.hid hsu
   by_cases hcc : c < 32 ∨ c = 127
   ·have hy : y1 = begS 0 := hct hcc
    subst hy
    have k1 := sCtl w0 X (l ++ y2) c hl2 hcc
    simp only [mach, mcB, evB] at k1 ⊢
    have hw8 : IntKind.u8.wrap (c : Int) = (c : Int) := IntWalk.u8_in _ (by omega)
    have hd : decide ((c : Int) < 32) = true ∨ decide ((c : Int) < 32) = false ∧ ((c : Int) == 127) = true := by simp only [decide_eq_true_eq, decide_eq_false_iff_not, beq_iff_eq]; omega
    have Hlt := Lib.hid (And.intro hlt hcc)
    clear hlt hq hc21 hsu hct hcl hl2 hcc hi htk
    rcases hd with d1 | ⟨d1, d2⟩
    all_goals
     repeat' first | refine st ?_ | (refine ca ?_; first | apply k1) | (refine br ?_ ?_; all_goals (intro hb; try simp only [bnn] at hb)) | fail
     refine HI.out (i + 1) _ _ (by have := Hlt.out.1; omega) ⟨by have := Hlt.out.1; omega, ?_, ?_, ?_, ?_, ?_, ?_⟩
     ·(simp only [go_sem, *]; try rfl)
     ·(simp only [go_sem, *]; try rfl)
     ·(simp only [go_sem, *]; try rfl)
     ·(simp only [go_sem, *]; try rfl)
     ·(simp only [go_sem, *]; try rfl)
     ·rw [Hsu.out]
      unfold codeS
      rw [if_pos Hlt.out.2]
      simp only [mach, mcB, evB, List.append_assoc]
   ·have d1 : decide ((c : Int) < 32) = false := by simp; omega
    have d2 : ((c : Int) == 127) = false := by rw [beq_eq_false_iff_ne]; omega
    obtain ⟨m, hm⟩ : ∃ m : Int, (if (255 : Int) < (c : Int) then 255 else (c : Int)) = m := ⟨_, rfl⟩
    have hm2 : 0 ≤ m ∧ m ≤ 255 ∧ ((m < 127 ∨ 159 < m) ↔ (c < 127 ∨ 159 < c)) := by subst hm; split <;> omega
    have hw8 : IntKind.u8.wrap m = m := IntWalk.u8_in _ (by omega)
    have ho := fun S' => sOutside w0 S' m 127 159
    have k1 := sTell w0 X y1 (l ++ y2) (evPrint c) hl2
    rw [show (evPrint c).av = .agg [.int .i64 1, .int .i64 c, .int .u8 0, .int .u8 0, .sval false [], .str [], .str []] from rfl] at k1
    simp only [mach, mcB, evB] at k1 ⊢
    have Hlt := Lib.hid (And.intro hlt hcc)
    by_cases hcd : c < 127 ∨ 159 < c
    ·have ho2 : (decide (m < 127) || decide (159 < m)) = true := by simp only [Bool.or_eq_true, decide_eq_true_eq]; exact hm2.2.2.2 hcd
     rw [ho2] at ho
     have Hcd := Lib.hid hcd
     clear hlt hq hc21 hsu hct hcl hl2 hcc hi htk hm2 ho2 hcd
     repeat' first | refine st ?_ | (refine ca ?_; first | apply k1 | apply ho) | (refine br ?_ ?_; all_goals (intro hb; try simp only [bnn] at hb)) | fail
     refine HI.out (i + 1) _ _ (by have := Hlt.out.1; omega) ⟨by have := Hlt.out.1; omega, ?_, ?_, ?_, ?_, ?_, ?_⟩
     ·(simp only [go_sem, *]; try rfl)
     ·(simp only [go_sem, *]; try rfl)
     ·(simp only [go_sem, *]; try rfl)
     ·(simp only [go_sem, *]; try rfl)
     ·(simp only [go_sem, *]; try rfl)
     ·rw [Hsu.out]
      unfold codeS
      rw [if_neg Hlt.out.2, if_pos Hcd.out]
      simp only [mach, mcB, evB, List.append_assoc]
    ·have ho2 : (decide (m < 127) || decide (159 < m)) = false := by
      have : ¬ (m < 127 ∨ 159 < m) := fun hh => hcd (hm2.2.2.1 hh)
      rw [not_or] at this
      simp only [Bool.or_eq_false_iff, decide_eq_false_iff_not]
      exact this
     rw [ho2] at ho
     have Hcd := Lib.hid hcd
     clear hlt hq hc21 hsu hct hcl hl2 hcc hi htk hm2 ho2 hcd
     repeat' first | refine st ?_ | (refine ca ?_; first | apply ho) | (refine br ?_ ?_; all_goals (intro hb; try simp only [bnn] at hb)) | fail
     refine HI.out (i + 1) _ _ (by have := Hlt.out.1; omega) ⟨by have := Hlt.out.1; omega, ?_, ?_, ?_, ?_, ?_, ?_⟩
     ·(simp only [go_sem, *]; try rfl)
     ·(simp only [go_sem, *]; try rfl)
     ·(simp only [go_sem, *]; try rfl)
     ·(simp only [go_sem, *]; try rfl)
     ·(simp only [go_sem, *]; try rfl)
     ·rw [Hsu.out]
      unfold codeS
      rw [if_neg Hlt.out.2, if_neg Hcd.out]
      simp only [mach, mcB, evB]
  ·have h1 : decide ((i : Int) < (q2.length : Int)) = false := by simpa using hlt
   have hie : i = q2.length := by omega
   have htk : q2.take i = q2 := List.take_of_length_le (by omega)
   rw [htk]
   clear hlt hi hie htk HI
   repeat' first | refine st ?_ | (refine br ?_ ?_; all_goals (intro hb; try simp only [bnn] at hb)) | fail
   (apply f_endQ HO.out H.out; (· simp); (· (simp only [go_sem, *]; try rfl)); (· (simp only [go_sem, *]; try rfl)); (· (simp only [go_sem, *, Tryz.results166]; try rfl)))
set_option maxHeartbeats 8000000 in
theorem sTakeP (w0 : World) (X : List Blk) (p : Ps) (l : List Ev) (b : Nat) (hl : l.length ≤ 900000) (hp : PsI p) (hb : b < 256) (hn : p.st = 0 ∧ (p.utf ≠ [] ∨ 128 ≤ b)) (R : Rt) (h : R (.ret (.tup [])) (mach X (printS p b).1 (l ++ (printS p b).2))) : ACall Tryz.prog w0 82 [.own X.length 0, .int .u8 b] (mach X p l) R := by
 have k0 := sPrint w0 X p l b hl hp hb
 simp only [mach, mcB, evB] at k0
 have z : ((0 : Nat) : Int) = 0 := rfl
 have c0 : decide ((0 : Int) < (p.utf.length : Int)) = true ∨ decide ((0 : Int) < (p.utf.length : Int)) = false ∧ decide ((128 : Int) ≤ (b : Int)) = true := by
  simp only [decide_eq_true_eq, decide_eq_false_iff_not]
  by_cases hu : p.utf = []
  ·right
   have h3 : p.utf.length = 0 := by rw [hu]; rfl
   have h4 := hn.2.resolve_left (fun hh => hh hu)
   omega
  ·left
   have : p.utf.length ≠ 0 := fun hh => hu (List.length_eq_zero_iff.1 hh)
   omega
 have hst := hn.1
 have H := Lib.hid h
 clear h hl hp hb hn
 have e0 : ((p.st : Int) == 0) = true := by rw [hst]; rfl
 have e6 : ((p.st : Int) == 6) = false := by rw [hst]; rfl
 have e11 : ((p.st : Int) == 11) = false := by rw [hst]; rfl
 have e13 : ((p.st : Int) == 13) = false := by rw [hst]; rfl
 clear hst z
 rcases c0 with c0 | ⟨c0, c1⟩
 all_goals
  refine en Tryz.func82 rfl Tryz.ntmps82 fun hO => ?_
  have HO := Lib.hid hO
  clear hO
  unfold mach mcB evB
  repeat' first | refine st ?_ | (refine ca ?_; first | apply k0) | (refine br ?_ ?_; all_goals (intro hb; try simp only [bnn] at hb)) | fail
  (apply f_endQ HO.out H.out; (· simp); (· (simp only [go_sem, *]; try rfl)); (· (simp only [go_sem, *]; try rfl)); (· (simp only [go_sem, *, Tryz.results82]; try rfl)))
set_option maxHeartbeats 8000000 in
theorem sTakeH (w0 : World) (X : List Blk) (p : Ps) (l : List Ev) (b : Nat) (hl : l.length ≤ 900000) (hb : b < 256) (hn : notPrint p b) (ht : inText p.st = false) (he : inEsc p.st = false) (hh : 128 ≤ b) (R : Rt) (h : R (.ret (.tup [])) (mach X (printS (begS 0) b).1 (l ++ (printS (begS 0) b).2))) : ACall Tryz.prog w0 82 [.own X.length 0, .int .u8 b] (mach X p l) R := by
 have k0 := sBegin w0 X p l 0
 have k1 := sPrint w0 X (begS 0) l b hl (PsI.beg (by decide)) hb
 simp only [mach, mcB, evB] at k0 k1
 have c1 : ((p.st : Int) == 0) = false := by
  rcases st_cat hn with ⟨_, _, c, _⟩ | c
  ·simp at c; omega
  ·exact c
 have c2 := text_cat p.st
 obtain ⟨q2, q3, q4⟩ := esc_cat he
 rcases c2 with ⟨c2, _⟩ | ⟨_, c5, c6, c7⟩
 ·rw [ht] at c2; cases c2
 have e24 : ((b : Int) == 24) = false := by rw [beq_eq_false_iff_ne]; omega
 have e26 : ((b : Int) == 26) = false := by rw [beq_eq_false_iff_ne]; omega
 have e27 : ((b : Int) == 27) = false := by rw [beq_eq_false_iff_ne]; omega
 have d128 : decide ((128 : Int) ≤ (b : Int)) = true := by simp; omega
 have H := Lib.hid h
 clear h hl hb hn hh
 refine en Tryz.func82 rfl Tryz.ntmps82 fun hO => ?_
 have HO := Lib.hid hO
 clear hO
 unfold mach mcB evB
 repeat' first | refine st ?_ | (refine ca ?_; first | apply k0 | apply k1) | (refine br ?_ ?_; all_goals (intro hb; try simp only [bnn] at hb)) | fail
 (apply f_endQ HO.out H.out; (· simp); (· (simp only [go_sem, *]; try rfl)); (· (simp only [go_sem, *]; try rfl)); (· (simp only [go_sem, *, Tryz.results82]; try rfl)))
theorem sTake1 (w0 : World) (X : List Blk) (p : Ps) (l : List Ev) (b : Nat) (hl : l.length ≤ 900000) (hp : PsI p) (hb : b < 256) (he : inEsc p.st = true → b = 24 ∨ b = 26 ∨ b = 27) (R : Rt) (h : R (.ret (.tup [])) (mach X (take1 p b).1 (l ++ (take1 p b).2))) : ACall Tryz.prog w0 82 [.own X.length 0, .int .u8 b] (mach X p l) R := by
 by_cases hn : p.st = 0 ∧ (p.utf ≠ [] ∨ 128 ≤ b)
 ·unfold take1 at h
  rw [if_pos hn] at h
  exact sTakeP w0 X p l b hl hp hb hn R h
 by_cases ht : inText p.st = true ∨ b < 128 ∨ b = 24 ∨ b = 26 ∨ b = 27
 ·exact sTakeN w0 X p l b (by omega) hp hb hn he ht R h
 ·rw [not_or, not_or] at ht
  obtain ⟨h1, h2, h3⟩ := ht
  have h1 : inText p.st = false := by simpa using h1
  have he' : inEsc p.st = false := by
   cases hx : inEsc p.st with
   | false => rfl
   | true => have := he hx; omega
  unfold take1 at h
  rw [if_neg hn, if_neg (by omega), if_neg (by omega), h1, if_neg (by decide), if_pos (by omega)] at h
  exact sTakeH w0 X p l b hl hb hn h1 he' (by omega) R h
set_option maxHeartbeats 8000000 in
theorem sEnd (w0 : World) (X : List Blk) (p : Ps) (l : List Ev) (b : Nat) (hl : l.length ≤ 900000) (hp : PsI p) (hb : b < 256) (R : Rt) (h : R (.ret (.tup [])) (mach X (endS p b).1 (l ++ (endS p b).2))) : ACall Tryz.prog w0 168 [.own X.length 0, .int .u8 b] (mach X p l) R := by
 unfold endS at h
 by_cases c : b ≠ 92
 ·rw [if_pos c] at h
  have k0 := sBegin w0 X p l 1
  have k1 := sTake1 w0 X (begS 1) l b hl (PsI.beg (by decide)) hb (fun hh => by cases hh)
  simp only [mach, mcB, evB] at k0 k1
  have e92 : ((b : Int) != 92) = true := by rw [bne_iff_ne]; omega
  have H := Lib.hid h
  clear h hl hp hb c
  refine en Tryz.func168 rfl Tryz.ntmps168 fun hO => ?_
  have HO := Lib.hid hO
  clear hO
  unfold mach mcB evB
  repeat' first | refine st ?_ | (refine ca ?_; first | apply k0 | apply k1) | (refine br ?_ ?_; all_goals (intro hb; try simp only [bnn] at hb)) | fail
  (apply f_retQ HO.out H.out; (· simp); (· (simp only [go_sem, *]; try rfl)); (· (simp only [go_sem, *]; try rfl)); (· (simp only [go_sem, *, Tryz.results168]; try rfl)))
 rw [if_neg c] at h
 have e92 : ((b : Int) != 92) = false := by
  have : b = 92 := by omega
  rw [this]; rfl
 by_cases c7 : p.st = 7
 ·rw [if_pos c7] at h
  have e7 : ((p.st : Int) == 7) = true := by rw [c7]; rfl
  have k0 := sDisp w0 X p l (evOsc p) (by omega)
  rw [show (evOsc p).av = .agg [.int .i64 5, .int .i64 0, .int .u8 0, .int .u8 0, .sval false [], .str [], .str p.text] from rfl] at k0
  simp only [mach, mcB, evB] at k0
  have H := Lib.hid h
  clear h hl hp hb c c7
  refine en Tryz.func168 rfl Tryz.ntmps168 fun hO => ?_
  have HO := Lib.hid hO
  clear hO
  unfold mach mcB evB
  repeat' ((fail_if_success (apply x_stop 16 rfl)); first | refine st ?_ | (refine br ?_ ?_; all_goals (intro hb; try simp only [bnn] at hb)) | fail)
  refine x_boxM 4 [0, 1, 4] rfl HO.out (by simp) (by (simp only [go_sem, *]; try rfl)) (by (simp only [go_sem, *]; try rfl)) (by (simp only [go_sem, *]; try rfl)) ?_
  repeat' first | refine st ?_ | (refine ca ?_; first | apply k0) | (refine br ?_ ?_; all_goals (intro hb; try simp only [bnn] at hb)) | fail
  (apply f_endQ HO.out H.out; (· simp); (· (simp only [go_sem, *]; try rfl)); (· (simp only [go_sem, *]; try rfl)); (· (simp only [go_sem, *, Tryz.results168]; try rfl)))
 rw [if_neg c7] at h
 have e7 : ((p.st : Int) == 7) = false := by rw [beq_eq_false_iff_ne]; omega
 by_cases c12 : p.st = 12
 ·rw [if_pos c12] at h
  have e12 : ((p.st : Int) == 12) = true := by rw [c12]; rfl
  have k0 := sDisp w0 X p l (evDcs p) (by omega)
  rw [show (evDcs p).av = .agg [.int .i64 6, .int .i64 0, .int .u8 p.pv, .int .u8 p.fn, .sval false (p.pars.map PmV), .str p.inter, .str p.text] from rfl] at k0
  simp only [mach, mcB, evB] at k0
  have H := Lib.hid h
  clear h hl hp hb c c7 c12
  refine en Tryz.func168 rfl Tryz.ntmps168 fun hO => ?_
  have HO := Lib.hid hO
  clear hO
  unfold mach mcB evB
  repeat' ((fail_if_success (apply x_stop 16 rfl)); first | refine st ?_ | (refine br ?_ ?_; all_goals (intro hb; try simp only [bnn] at hb)) | fail)
  refine x_boxM 4 [0, 1, 4] rfl HO.out (by simp) (by (simp only [go_sem, *]; try rfl)) (by (simp only [go_sem, *]; try rfl)) (by (simp only [go_sem, *]; try rfl)) ?_
  repeat' first | refine st ?_ | (refine ca ?_; first | apply k0) | (refine br ?_ ?_; all_goals (intro hb; try simp only [bnn] at hb)) | fail
  (apply f_endQ HO.out H.out; (· simp); (· (simp only [go_sem, *]; try rfl)); (· (simp only [go_sem, *]; try rfl)); (· (simp only [go_sem, *, Tryz.results168]; try rfl)))
 rw [if_neg c12] at h
 simp only [List.append_nil] at h
 have e12 : ((p.st : Int) == 12) = false := by rw [beq_eq_false_iff_ne]; omega
 have k0 := sBegin w0 X p l 0
 simp only [mach, mcB, evB] at k0
 have H := Lib.hid h
 clear h hl hp hb c c7 c12
 refine en Tryz.func168 rfl Tryz.ntmps168 fun hO => ?_
 have HO := Lib.hid hO
 clear hO
 unfold mach mcB evB
 repeat' ((fail_if_success (apply x_stop 16 rfl)); first | refine st ?_ | (refine br ?_ ?_; all_goals (intro hb; try simp only [bnn] at hb)) | fail)
 refine x_boxM 4 [0, 1, 4] rfl HO.out (by simp) (by (simp only [go_sem, *]; try rfl)) (by (simp only [go_sem, *]; try rfl)) (by (simp only [go_sem, *]; try rfl)) ?_
 repeat' first | refine st ?_ | (refine ca ?_; first | apply k0) | (refine br ?_ ?_; all_goals (intro hb; try simp only [bnn] at hb)) | fail
 (apply f_endQ HO.out H.out; (· simp); (· (simp only [go_sem, *]; try rfl)); (· (simp only [go_sem, *]; try rfl)); (· (simp only [go_sem, *, Tryz.results168]; try rfl)))
set_option maxHeartbeats 8000000 in
theorem sTakeE (w0 : World) (X : List Blk) (p : Ps) (l : List Ev) (b : Nat) (hl : l.length ≤ 900000) (hp : PsI p) (hb : b < 256) (he : inEsc p.st = true) (hc : ¬ (b = 24 ∨ b = 26 ∨ b = 27)) (R : Rt) (h : R (.ret (.tup [])) (mach X (endS p b).1 (l ++ (endS p b).2))) : ACall Tryz.prog w0 82 [.own X.length 0, .int .u8 b] (mach X p l) R := by
 have k0 := sEnd w0 X p l b hl hp hb
 simp only [mach, mcB, evB] at k0
 have e24 : ((b : Int) == 24) = false := by rw [beq_eq_false_iff_ne]; omega
 have e26 : ((b : Int) == 26) = false := by rw [beq_eq_false_iff_ne]; omega
 have e27 : ((b : Int) == 27) = false := by rw [beq_eq_false_iff_ne]; omega
 unfold inEsc at he
 simp only [Bool.or_eq_true, beq_iff_eq] at he
 have e0 : ((p.st : Int) == 0) = false := by rw [beq_eq_false_iff_ne]; omega
 have e6 : ((p.st : Int) == 6) = false := by rw [beq_eq_false_iff_ne]; omega
 have e11 : ((p.st : Int) == 11) = false := by rw [beq_eq_false_iff_ne]; omega
 have e13 : ((p.st : Int) == 13) = false := by rw [beq_eq_false_iff_ne]; omega
 have c0 : ((p.st : Int) == 7) = true ∨ (((p.st : Int) == 7) = false ∧ ((p.st : Int) == 12) = true) ∨ (((p.st : Int) == 7) = false ∧ ((p.st : Int) == 12) = false ∧ ((p.st : Int) == 14) = true) := by simp only [beq_iff_eq, beq_eq_false_iff_ne]; omega
 have H := Lib.hid h
 clear h hl hp hb he hc
 rcases c0 with c0 | ⟨c0, c1⟩ | ⟨c0, c1, c2⟩
 all_goals
  refine en Tryz.func82 rfl Tryz.ntmps82 fun hO => ?_
  have HO := Lib.hid hO
  clear hO
  unfold mach mcB evB
  repeat' first | refine st ?_ | (refine ca ?_; first | apply k0) | (refine br ?_ ?_; all_goals (intro hb; try simp only [bnn] at hb)) | fail
  (apply f_endQ HO.out H.out; (· simp); (· (simp only [go_sem, *]; try rfl)); (· (simp only [go_sem, *]; try rfl)); (· (simp only [go_sem, *, Tryz.results82]; try rfl)))
theorem sTake (w0 : World) (X : List Blk) (p : Ps) (l : List Ev) (b : Nat) (hl : l.length ≤ 900000) (hp : PsI p) (hb : b < 256) (R : Rt) (h : R (.ret (.tup [])) (mach X (takeS p b).1 (l ++ (takeS p b).2))) : ACall Tryz.prog w0 82 [.own X.length 0, .int .u8 b] (mach X p l) R := by
 unfold takeS at h
 split at h
 ·next hc => exact sTakeE w0 X p l b hl hp hb hc.1 hc.2 R h
 ·next hc =>
  refine sTake1 w0 X p l b hl hp hb (fun he => ?_) R h
  by_cases h2 : b = 24 ∨ b = 26 ∨ b = 27
  ·exact h2
  ·exact absurd ⟨he, h2⟩ hc
theorem feed_acc : ∀ (s : List Nat) (q : Ps × List Ev), s.foldl (fun q b => ((takeS q.1 b).1, q.2 ++ (takeS q.1 b).2)) q = ((feedS q.1 s).1, q.2 ++ (feedS q.1 s).2)
 | [], q => by simp [feedS]
 | b :: s, q => by
  unfold feedS
  rw [List.foldl_cons, List.foldl_cons, feed_acc s, feed_acc s]
  simp [feedS]
theorem feed_nil (p : Ps) : feedS p [] = (p, []) := rfl
theorem feed_cons (p : Ps) (b : Nat) (s : List Nat) : feedS p (b :: s) = ((feedS (takeS p b).1 s).1, (takeS p b).2 ++ (feedS (takeS p b).1 s).2) := by
 have := feed_acc s ((takeS p b).1, [] ++ (takeS p b).2)
 simp only [List.nil_append] at this
 exact this
theorem feed_app : ∀ (s t : List Nat) (p : Ps), feedS p (s ++ t) = ((feedS (feedS p s).1 t).1, (feedS p s).2 ++ (feedS (feedS p s).1 t).2)
 | [], t, p => by simp [feed_nil]
 | b :: s, t, p => by
  rw [List.cons_append, feed_cons, feed_app s t, feed_cons]
  simp
theorem feed_ok : ∀ (s : List Nat) (p : Ps), PsI p → (∀ b ∈ s, b < 256) → PsI (feedS p s).1
 | [], p, h, _ => h
 | b :: s, p, h, hb => by
  rw [feed_cons]
  exact feed_ok s _ (h.take (hb b (by simp))) fun x hx => hb x (List.mem_cons_of_mem _ hx)
theorem take_len (p : Ps) (b : Nat) : (takeS p b).2.length ≤ 2 := by
 have hd : ∀ p e, (dispS p e).2.length ≤ 2 := fun p e => Nat.le_trans (dispS_len p e) (by decide)
 have hp : ∀ q b, (printS q b).2.length ≤ 2 := fun q b => by
  unfold printS
  have h1 := codes_len (stepU q.utf b).2 ({ begS 0 with utf := (stepU q.utf b).1 }, [])
  have h2 := (step_codes q.utf b).2
  exact Nat.le_trans h1 (by simpa using h2)
 have hla : ∀ p b, (lastS p b).2.length ≤ 2 := fun p b => Nat.le_trans (last_len p b) (by decide)
 have h1 : ∀ p b, (take1 p b).2.length ≤ 2 := fun p b => by
  unfold take1
  split
  ·exact hp _ _
  ·split
   ·simp
   ·split
    ·split <;> simp
    ·split
     ·unfold withinS
      repeat' split
      all_goals first | exact hd _ _ | simp
     ·split
      ·exact hp _ _
      ·split
       ·split <;> simp
       ·split
        ·simp
        ·unfold goesS
         split
         ·simp
         ·unfold escS
          repeat' split
          all_goals first | exact hd _ _ | simp
         ·unfold signsS
          split
          ·simp
          ·exact hd _ _
         ·unfold entryS
          repeat' split
          all_goals first | exact hla _ _ | simp
         ·unfold entryS
          repeat' split
          all_goals first | exact hla _ _ | simp
         ·unfold paramsS
          repeat' split
          all_goals first | exact hla _ _ | simp
         ·unfold paramsS
          repeat' split
          all_goals first | exact hla _ _ | simp
         ·unfold intersS
          repeat' split
          all_goals first | exact hla _ _ | simp
         ·unfold intersS
          repeat' split
          all_goals first | exact hla _ _ | simp
         ·simp
 unfold takeS
 split
 ·unfold endS
  repeat' split
  ·exact h1 _ _
  ·exact hd _ _
  ·exact hd _ _
  ·simp
 ·exact h1 _ _
theorem feed_len : ∀ (s : List Nat) (p : Ps), (feedS p s).2.length ≤ 2 * s.length
 | [], p => by simp [feed_nil]
 | b :: s, p => by
  rw [feed_cons]
  have h1 := feed_len s (takeS p b).1
  have h2 := take_len p b
  simp only [List.length_append, List.length_cons]; omega
theorem feed_succ {s : List Nat} {i b : Nat} (p : Ps) (h : s[i]? = some b) : feedS p (s.take (i + 1)) = ((takeS (feedS p (s.take i)).1 b).1, (feedS p (s.take i)).2 ++ (takeS (feedS p (s.take i)).1 b).2) := by
 rw [List.take_add_one, h]
 show feedS p (s.take i ++ [b]) = _
 rw [feed_app, feed_cons, feed_nil]
 simp
theorem Ev_plain (e : Ev) : (Ev.av e).plain = true := by simp only [Ev.av, go_sem, PmV.plainL]
@[go_sem] theorem Ev.plainL (l : List Ev) : plainL (l.map Ev.av) = true := plainL_map Ev_plain l
theorem sTakeY (w0 : World) (S : List Blk) (B C : Blk) (p : Ps) (l : List Ev) (b : Nat) (hl : l.length ≤ 900000) (hp : PsI p) (hb : b < 256) (R : Rt) (h : R (.ret (.tup [])) (S ++ [B, C, mcB (takeS p b).1 (S.length + 3) (l ++ (takeS p b).2).length, evB (l ++ (takeS p b).2)])) :
  ACall Tryz.prog w0 82 [.own (S.length + 2) 0, .int .u8 b] (S ++ [B, C, mcB p (S.length + 3) l.length, evB l]) R := by
 have k := sTake w0 (S ++ [B, C]) p l b hl hp hb R
 have e : (S ++ [B, C]).length = S.length + 2 := by simp
 unfold mach at k
 rw [e] at k
 simp only [List.append_assoc, List.cons_append, List.nil_append] at k
 exact k h
set_option maxHeartbeats 8000000 in
theorem sFeed (w0 : World) (S : List Blk) (p : Ps) (s : List Nat) (hp : PsI p) (hs : s.length ≤ 4096) (hb : ∀ b ∈ s, b < 256) (hck : ∀ (S' : List Blk) (R : Rt), R (.ret (.int .i64 0)) S' → ACall Tryz.prog w0 81 [p.av] S' R) (R : Rt)
  (h : R (.ret (.tup [(feedS p s).1.av, .sval false ((feedS p s).2.map Ev.av), .int .i64 0])) S) : ACall Tryz.prog w0 37 [p.av, .sval false (s.map By)] S R := by
 have hgt : decide ((4096 : Int) < (s.length : Int)) = false := by simp; omega
 have Hp := Lib.hid hp
 have Hb := Lib.hid hb
 have H := Lib.hid h
 clear hp hb h
 unfold Ps.av at hck ⊢
 refine en Tryz.func37 rfl Tryz.ntmps37 fun hO => ?_
 repeat' first | refine st ?_ | (refine ca ?_; first | apply hck) | (refine br ?_ ?_; all_goals (intro hb; try simp only [bnn] at hb)) | fail
 refine x_thawC (a := S.length + 2) (j := 8) 40 7 (by (simp only [go_sem, *]; try rfl)) (by (simp only [go_sem, *]; try rfl)) (by decide) ?_
 simp only [go_sem, *]
 refine x_ind (fun (i : Nat) env S' => i ≤ s.length ∧ env 1000000 = .dfr [] ∧ env 4 = .own (S.length + 1) 0 ∧ env 8 = .own (S.length + 2) 0 ∧ env 24 = .sval false (s.map By) ∧ env 25 = .int .i64 s.length ∧ env 26 = .int .i64 (i : Int) ∧
  S' = S ++ [Blk.cells [.int .i64 p.st, .sval false (p.utf.map By), .int .u8 p.pv, .int .u8 p.fn, .sval false (p.pars.map PmV), .str p.inter, .str p.text, .bool p.bad], Blk.cells [.int .i64 0, .snil, .int .u8 0, .int .u8 0, .snil, .str [], .str [], .bool false], mcB (feedS p (s.take i)).1 (S.length + 3) (feedS p (s.take i)).2.length, evB (feedS p (s.take i)).2]) (fun i => s.length - i) 0 ?_ ?_
 ·exact ⟨Nat.zero_le _, by (simp only [go_sem, *]; try rfl), by (simp only [go_sem, *]; try rfl), by (simp only [go_sem, *]; try rfl), by (simp only [go_sem, *]; try rfl), by (simp only [go_sem, *]; try rfl), by (simp only [go_sem, *]; try rfl), rfl⟩
 ·rintro i env S' ⟨hi, e0, f4, f8, f24, f25, f26, rfl⟩ IH
  have HI := Lib.hid IH
  clear IH hck
  by_cases hlt : i < s.length
  ·obtain ⟨b, hx⟩ : ∃ b, s[i]? = some b := ⟨_, List.getElem?_eq_getElem hlt⟩
   have h1 : decide ((i : Int) < (s.length : Int)) = true := by simpa using hlt
   have hw : IntKind.i64.wrap ((i : Int) + 1) = ((i + 1 : Nat) : Int) := by rw [IntWalk.i64_in _ (by omega)]; omega
   have hco : By b = .int .u8 b := rfl
   have hpi : PsI (feedS p (s.take i)).1 := feed_ok _ _ Hp.out fun x hx => Hb.out x (List.mem_of_mem_take hx)
   have hsu := feed_succ p hx
   have hle := feed_len (s.take i) p
   have htk : (s.take i).length ≤ i := List.length_take_le _ _
   generalize feedS p (s.take i) = y at hsu hpi hle
   obtain ⟨y1, y2⟩ := y
   simp only at hpi hle hsu
   have k1 := sTakeY w0 S (Blk.cells [.int .i64 p.st, .sval false (p.utf.map By), .int .u8 p.pv, .int .u8 p.fn, .sval false (p.pars.map PmV), .str p.inter, .str p.text, .bool p.bad]) (Blk.cells [.int .i64 0, .snil, .int .u8 0, .int .u8 0, .snil, .str [], .str [], .bool false]) y1 y2 b (by omega) hpi (Hb.out b (List.mem_of_getElem? hx))
   have Hsu := Lib.hid hsu
   have Hlt := Lib.hid hlt
   clear hsu hlt hpi hle htk hi
   simp only [mcB, evB] at k1 ⊢
   repeat' first | refine st ?_ | (refine ca ?_; first | apply k1) | (refine br ?_ ?_; all_goals (intro hb; try simp only [bnn] at hb)) | fail
   refine HI.out (i + 1) _ _ (by have := Hlt.out; omega) ⟨Hlt.out, ?_, ?_, ?_, ?_, ?_, ?_, ?_⟩
   ·(simp only [go_sem, *]; try rfl)
   ·(simp only [go_sem, *]; try rfl)
   ·(simp only [go_sem, *]; try rfl)
   ·(simp only [go_sem, *]; try rfl)
   ·(simp only [go_sem, *]; try rfl)
   ·(simp only [go_sem, *]; try rfl)
   ·rw [Hsu.out]
    rfl
  ·have h1 : decide ((i : Int) < (s.length : Int)) = false := by simpa using hlt
   have hie : i = s.length := by omega
   have htk : s.take i = s := List.take_of_length_le (by omega)
   rw [htk]
   have hh := H.out
   generalize feedS p s = y at hh
   obtain ⟨y1, y2⟩ := y
   unfold Ps.av at hh
   simp only at hh
   have H2 := Lib.hid hh
   clear hlt hi hie htk HI hh H
   simp only [mcB, evB]
   repeat' first | refine st ?_ | (refine br ?_ ?_; all_goals (intro hb; try simp only [bnn] at hb)) | refine sd ?_ | refine sx ?_ | apply pl_nil | (apply c_end; (· decide +kernel)) | refine bd ?_ ?_ | fail
   all_goals (apply f_ret; iterate 7 (· simp only [go_sem, *, Tryz.results37]; try rfl))
   all_goals exact H2.out
theorem sGathers (w0 : World) (S : List Blk) (R : Rt) (h : R (.ret (.agg [.int .i64 1, .int .i64 0, .int .i64 130, .int .i64 0, .int .i64 136, .int .i64 146, .int .i64 192, .int .i64 192, .int .i64 0, .int .i64 136, .int .i64 146, .int .i64 244, .int .i64 244, .int .i64 0, .int .i64 0])) S) : ACall Tryz.prog w0 161 [] S R := by
 have H := Lib.hid h
 clear h
 refine en Tryz.func161 rfl Tryz.ntmps161 fun hO => ?_
 repeat' first | refine st ?_ | (refine br ?_ ?_; all_goals (intro hb; try simp only [bnn] at hb)) | fail
 (apply f_ret; iterate 7 (· simp only [go_sem, *, Tryz.results161]; try rfl))
 exact H.out
theorem sHas0 (w0 : World) (S : List Blk) (a : Nat) (what : Int) (R : Rt) (hw : (IntKind.i64.wrap ((BitVec.ofInt 64 1 &&& BitVec.ofInt 64 what).toNat : Int) != 0) = false) (ha : S[a]? = some (.cells [.int .i64 1] none)) (h : R (.ret (.bool false)) S) : ACall Tryz.prog w0 162 [.int .i64 what, .own a 0] S R := by
 refine en Tryz.func162 rfl Tryz.ntmps162 fun hO => ?_
 repeat' first | refine st ?_ | (refine br ?_ ?_; all_goals (intro hb; try simp only [bnn] at hb)) | fail
 (apply f_ret; iterate 7 (· simp only [go_sem, *, Tryz.results162]; try rfl))
 exact (congrArg (fun z => R (.ret (.bool z)) S) hw).mpr h
set_option maxHeartbeats 8000000 in
theorem sCheck0 (w0 : World) (S : List Blk) (R : Rt) (h : R (.ret (.int .i64 0)) S) : ACall Tryz.prog w0 81 [(begS 0).av] S R := by
 have hg := sGathers w0
 have hu := fun S' => uRight w0 S' [] (by decide)
 have hpc := fun S' => pCheck w0 S' [] ⟨by decide, by simp⟩
 have e1 : rightU [] = true := rfl
 have e2 : parE [] = 0 := by decide
 rw [e1] at hu
 rw [e2] at hpc
 simp only [List.map_nil] at hu hpc
 have H := Lib.hid h
 clear h e1 e2
 rw [show (begS 0).av = .agg [.int .i64 0, .sval false [], .int .u8 0, .int .u8 0, .sval false [], .str [], .str [], .bool false] from rfl]
 refine en Tryz.func81 rfl Tryz.ntmps81 fun hO => ?_
 refine share ?K1 ?hK1 fun key1 => ?main1
 case main1 =>
  repeat' ((fail_if_success (apply x_stopR 3)); first | refine st ?_ | (refine br ?_ ?_; all_goals (intro hb; try simp only [bnn] at hb)) | fail)
  repeat' ((fail_if_success (apply x_stopR 9)); first | refine st ?_ | (refine ca ?_; first | apply hg) | (refine br ?_ ?_; all_goals (intro hb; try simp only [bnn] at hb)) | refine sd ?_ | apply pl_nil | (apply c_end; (· decide +kernel)) | refine bd ?_ ?_ | (refine cd ?_; first | apply hg) | fail)
  all_goals
   refine x_gen [1000000, 1, 4] ?_
   simp only [agreeL, go_sem]
   exact key1
 case hK1 =>
  rintro env ⟨e0, e1, e4⟩
  have h8 := fun R => sHas0 w0 (S ++ [Blk.cells [.int .i64 0, .sval false [], .int .u8 0, .int .u8 0, .sval false [], .str [], .str [], .bool false], Blk.cells [.int .i64 1]]) (S.length + 1) 8 R (by decide) (by rw [List.getElem?_append_right (by omega)]; simp)
  have h32 := fun R => sHas0 w0 (S ++ [Blk.cells [.int .i64 0, .sval false [], .int .u8 0, .int .u8 0, .sval false [], .str [], .str [], .bool false], Blk.cells [.int .i64 1]]) (S.length + 1) 32 R (by decide) (by rw [List.getElem?_append_right (by omega)]; simp)
  have h2 := fun R => sHas0 w0 (S ++ [Blk.cells [.int .i64 0, .sval false [], .int .u8 0, .int .u8 0, .sval false [], .str [], .str [], .bool false], Blk.cells [.int .i64 1]]) (S.length + 1) 2 R (by decide) (by rw [List.getElem?_append_right (by omega)]; simp)
  simp only [List.append_eq, List.cons_append, List.nil_append]
  refine d_draw (n := 120) mixed rfl ?_; refine d_seq 120 0 rfl (by decide +kernel) (by decide +kernel) (by decide +kernel) ?_
  repeat' first | refine st ?_ | (refine ca ?_; first | apply h8 | apply h32 | apply h2 | apply hu | apply hpc) | (refine br ?_ ?_; all_goals (intro hb; try simp only [bnn] at hb)) | refine sq ?_ | (apply q_call; (iterate 2 (· simp only [go_sem, *]; try rfl)); (· rfl); (· simp only [go_sem, *]; try rfl); (· rfl); (· rfl); (· simp only [go_sem, *]; try rfl); (· intro R hR; (first | apply h8 | apply h32 | apply h2 | apply hu | apply hpc); exact hR)) | (refine bq ?_ ?_; all_goals (intro hb; try simp only [bnn] at hb)) | fail
  clear h8 h32 h2 hu hpc
  apply x_bytes
  ·(simp only [go_sem, *]; try rfl)
  ·rfl
  ·(simp only [go_sem, *]; try rfl)
  ·(simp only [go_sem, *]; try rfl)
  ·(simp only [go_sem, *]; try rfl)
  ·(simp only [go_sem, *]; try rfl)
  ·rfl
  simp only [putA, List.map_nil]
  repeat' first | refine st ?_ | (refine br ?_ ?_; all_goals (intro hb; try simp only [bnn] at hb)) | apply x_loop | apply x_lp | fail
  apply x_bytes
  ·(simp only [go_sem, *]; try rfl)
  ·rfl
  ·(simp only [go_sem, *]; try rfl)
  ·(simp only [go_sem, *]; try rfl)
  ·(simp only [go_sem, *]; try rfl)
  ·(simp only [go_sem, *]; try rfl)
  ·rfl
  simp only [putA, List.map_nil]
  repeat' first | refine st ?_ | (refine br ?_ ?_; all_goals (intro hb; try simp only [bnn] at hb)) | apply x_loop | apply x_lp | fail
  (apply f_ret; iterate 7 (· simp only [go_sem, *, Tryz.results81]; try rfl))
  exact H.out
theorem pEqF0 (w0 : World) (S : List Blk) (R : Rt) (h : R (.ret (.bool true)) S) : ACall Tryz.prog w0 172 [.sval false [], .sval false [], .fn (.func 173) [] []] S R := by
 refine en Tryz.func172 rfl Tryz.ntmps172 fun hO => ?_
 repeat' first | refine st ?_ | (refine br ?_ ?_; all_goals (intro hb; try simp only [bnn] at hb)) | apply x_loop | apply x_lp | fail
 (apply f_ret; iterate 7 (· simp only [go_sem, *, Tryz.results172]; try rfl))
 exact h
theorem pSame0 (w0 : World) (S : List Blk) (R : Rt) (h : R (.ret (.bool true)) S) : ACall Tryz.prog w0 84 [.sval false [], .sval false []] S R := by
 have hf := pEqF0 w0
 refine en Tryz.func84 rfl Tryz.ntmps84 fun hO => ?_
 repeat' first | refine st ?_ | (refine ca ?_; first | apply hf) | (refine br ?_ ?_; all_goals (intro hb; try simp only [bnn] at hb)) | fail
 (apply f_ret; iterate 7 (· simp only [go_sem, *, Tryz.results84]; try rfl))
 exact h
theorem bEqual0 (w0 : World) (S : List Blk) (R : Rt) (h : R (.ret (.bool true)) S) : ACall Tryz.prog w0 83 [.sval false [], .sval false []] S R := by
 refine en Tryz.func83 rfl Tryz.ntmps83 fun hO => ?_
 repeat' first | refine st ?_ | (refine br ?_ ?_; all_goals (intro hb; try simp only [bnn] at hb)) | fail
 (apply f_ret; iterate 7 (· simp only [go_sem, *, Tryz.results83]; try rfl))
 exact h
set_option maxHeartbeats 8000000 in
theorem sSame0 (w0 : World) (S : List Blk) (R : Rt) (h : R (.ret (.bool true)) S) : ACall Tryz.prog w0 38 [(begS 0).av, (begS 0).av] S R := by
 have hp := pSame0 w0
 have hb := bEqual0 w0
 rw [show (begS 0).av = .agg [.int .i64 0, .sval false [], .int .u8 0, .int .u8 0, .sval false [], .str [], .str [], .bool false] from rfl]
 refine en Tryz.func38 rfl Tryz.ntmps38 fun hO => ?_
 repeat' first | refine st ?_ | (refine ca ?_; first | apply hp | apply hb) | (refine br ?_ ?_; all_goals (intro hb; try simp only [bnn] at hb)) | fail
 (apply f_ret; iterate 7 (· simp only [go_sem, *, Tryz.results38]; try rfl))
 exact h
set_option maxHeartbeats 8000000 in
theorem rSameEq (w0 : World) (S : List Blk) (L : List Ac) (hl : L.length ≤ 1000000) (R : Rt) (h : R (.ret (.bool true)) S) : ACall Tryz.prog w0 21 [.sval false (L.map Ac.av), .sval false (L.map Ac.av)] S R := by
 have hb0 : ∀ l : List UInt8, (l == l) = true := by simp
 have hb1 : ∀ i : Int, (i == i) = true := by simp
 have hne : ((L.length : Int) != (L.length : Int)) = false := by simp
 have H := Lib.hid h
 have Hl := Lib.hid hl
 clear h hl
 refine en Tryz.func21 rfl Tryz.ntmps21 fun hO => ?_
 repeat' first | refine st ?_ | (refine br ?_ ?_; all_goals (intro hb; try simp only [bnn] at hb)) | fail
 refine x_ind (fun (i : Nat) env S' => i ≤ L.length ∧ env 1000000 = .dfr [] ∧ env 0 = .sval false (L.map Ac.av) ∧ env 1 = .sval false (L.map Ac.av) ∧ env 5 = .int .i64 (i : Int) ∧ S' = S) (fun i => L.length - i) 0 ?_ ?_
 ·exact ⟨Nat.zero_le _, by (simp only [go_sem, *]; try rfl), by (simp only [go_sem, *]; try rfl), by (simp only [go_sem, *]; try rfl), by (simp only [go_sem, *]; try rfl), rfl⟩
 ·rintro i env S' ⟨hi, e0, f0, f1, f5, rfl⟩ IH
  have HI := Lib.hid IH
  clear IH
  by_cases hlt : i < L.length
  ·obtain ⟨a, hx⟩ : ∃ a, L[i]? = some a := ⟨_, List.getElem?_eq_getElem hlt⟩
   have h1 : decide ((i : Int) < (L.length : Int)) = true := by simpa using hlt
   have hw : IntKind.i64.wrap ((i : Int) + 1) = ((i + 1 : Nat) : Int) := by have := Hl.out; rw [IntWalk.i64_in _ (by omega)]; omega
   obtain ⟨k1, k2, k3, k4, k5, k6⟩ := a
   have hav : Ac.av ⟨k1, k2, k3, k4, k5, k6⟩ = .agg [.int .i64 k1, .int .i64 k2, .int .i64 k3, .int .i64 k4, .int .i64 k5, .str k6] := rfl
   have Hlt := Lib.hid hlt
   clear hlt hi
   repeat' first | refine st ?_ | (refine br ?_ ?_; all_goals (intro hb; try simp only [bnn] at hb)) | refine sd ?_ | refine sx ?_ | apply pl_nil | (apply c_end; (· decide +kernel)) | refine bd ?_ ?_ | fail
   all_goals
    refine HI.out (i + 1) _ _ (by have := Hlt.out; omega) ⟨Hlt.out, ?_, ?_, ?_, ?_, rfl⟩
    all_goals (simp only [go_sem, *]; try rfl)
  ·have h1 : decide ((i : Int) < (L.length : Int)) = false := by simpa using hlt
   clear hlt hi HI
   repeat' first | refine st ?_ | (refine br ?_ ?_; all_goals (intro hb; try simp only [bnn] at hb)) | fail
   (apply f_ret; iterate 7 (· simp only [go_sem, *, Tryz.results21]; try rfl))
   exact H.out
theorem lAc (w0 : World) (S : List Blk) (k n m : Int) (R : Rt) (h : R (.ret (.agg [.int .i64 k, .int .i64 n, .int .i64 m, .int .i64 0, .int .i64 0, .str []])) S) : ACall Tryz.prog w0 20 [.int .i64 k, .int .i64 n, .int .i64 m] S R := by
 refine en Tryz.func20 rfl Tryz.ntmps20 fun hO => ?_
 repeat' first | refine st ?_ | (refine br ?_ ?_; all_goals (intro hb; try simp only [bnn] at hb)) | fail
 (apply f_ret; iterate 7 (· simp only [go_sem, *, Tryz.results20]; try rfl))
 exact h
theorem flat_succ {α β : Type} {f : α → List β} {l : List α} {i : Nat} {x : α} (h : l[i]? = some x) : (l.take (i + 1)).flatMap f = (l.take i).flatMap f ++ f x := by
 rw [List.take_add_one, h]; simp
theorem flat_le {α β : Type} (f : α → List β) (l : List α) (i : Nat) : ((l.take i).flatMap f).length ≤ (l.flatMap f).length := by
 have : l.flatMap f = (l.take i).flatMap f ++ (l.drop i).flatMap f := by rw [← List.flatMap_append, List.take_append_drop]
 rw [this, List.length_append]; omega
def evIs (e : Ev) : Bool := evOk e && (decide (e.text.length ≤ 8192) && (match seqF ⟨e.priv, e.inter, e.fin⟩ with | some .pens => false | _ => true))
set_option maxHeartbeats 16000000 in
theorem lIs (w0 : World) (hM : MarksOk w0) (hW : WidesOk w0) (hQ : PrintOk w0) (hQ2 : ParseOk w0) (S : List Blk) (s : List UInt8) (hs : s.length ≤ 4096) (evs : List Ev) (hf : feedS (begS 0) (s.map UInt8.toNat) = (begS 0, evs)) (he : evs.all evIs = true) (L : List Ac) (hL : evs.flatMap ofS = L) (hLl : L.length ≤ 100000)
  (R : Rt) (h : R (.ret (.bool true)) S) : ACall Tryz.prog w0 19 [.str s, .sval false (L.map Ac.av)] S R := by
 have hel : evs.length ≤ 10000 := by
  have := feed_len (s.map UInt8.toNat) (begS 0)
  rw [hf, List.length_map] at this
  simp only at this; omega
 have hfd := fun S' => sFeed w0 S' (begS 0) (s.map UInt8.toNat) (PsI.beg (by decide)) (by rw [List.length_map]; exact hs) (by intro b hb; obtain ⟨x, _, rfl⟩ := List.mem_map.1 hb; exact x.toNat_lt) (sCheck0 w0)
 rw [hf, List.map_map] at hfd
 have hbv : s.map byteAV = s.map (By ∘ UInt8.toNat) := rfl
 rw [← hbv, show (begS 0).av = .agg [.int .i64 0, .sval false [], .int .u8 0, .int .u8 0, .sval false [], .str [], .str [], .bool false] from rfl] at hfd
 simp only at hfd
 have hof := fun S' (e : Ev) (h : e ∈ evs) => by
  have h1 := List.all_eq_true.1 he e h
  unfold evIs at h1
  simp only [Bool.and_eq_true, decide_eq_true_eq] at h1
  have hsh : ShortR e.pars := by
   have h2 := h1.1
   unfold evOk okRow at h2
   simp only [Bool.and_eq_true, decide_eq_true_eq, Bool.not_eq_true', List.any_eq_false] at h2
   refine ⟨by omega, fun x hx => ?_⟩
   have := h2.2.2.2 x hx
   unfold badS at this
   simp only [Bool.or_eq_true, not_or, decide_eq_true_eq] at this
   omega
  have := aOf w0 hM hW hQ hQ2 S' e hsh h1.2.1 (fun _ _ hp => by rw [hp] at h1; cases h1.2.2)
  rw [h1.1] at this
  simp only [if_true] at this
  exact this
 have hsm := sSame0 w0
 rw [show (begS 0).av = .agg [.int .i64 0, .sval false [], .int .u8 0, .int .u8 0, .sval false [], .str [], .str [], .bool false] from rfl] at hsm
 have hr9 := fun S' => rSameEq w0 S' L (by omega)
 have H := Lib.hid h
 have HOf := Lib.hid hof
 have HSm := Lib.hid hsm
 have HR9 := Lib.hid hr9
 have HLL := Lib.hid (And.intro hL (And.intro hLl hel))
 clear h hof hsm hr9 hf hbv hL hLl he hel
 refine en Tryz.func19 rfl Tryz.ntmps19 fun hO => ?_
 repeat' first | refine st ?_ | (refine br ?_ ?_; all_goals (intro hb; try simp only [bnn] at hb)) | fail
 apply x_bytes
 ·(simp only [go_sem, *]; try rfl)
 ·rfl
 ·(simp only [go_sem, *]; try rfl)
 ·(simp only [go_sem, *]; try rfl)
 ·(simp only [go_sem, *]; try rfl)
 ·(simp only [go_sem, *]; try rfl)
 ·rfl
 simp only [putA]
 have hpl : plainL (s.map byteAV) = true := plainL_map (fun _ => rfl) s
 repeat' first | refine st ?_ | (refine ca ?_; first | apply hfd) | (refine br ?_ ?_; all_goals (intro hb; try simp only [bnn] at hb)) | fail
 refine x_thaw (t := 8) (e := 25) (sz := 6) (by (simp only [go_sem, *]; try rfl)) (by decide) ?_
 clear hfd hpl
 refine x_ind (fun (i : Nat) env S' => i ≤ evs.length ∧ env 1000000 = .dfr [] ∧ env 1 = .sval false (L.map Ac.av) ∧ env 5 = .own S.length 0 ∧ env 6 = .sval false (evs.map Ev.av) ∧ env 7 = .int .i64 0 ∧ env 8 = .sown (S.length + 1) i ((evs.take i).flatMap ofS).length ∧ env 9 = .int .i64 (i : Int) ∧
  S' = S ++ [.cells [.int .i64 0, .sval false [], .int .u8 0, .int .u8 0, .sval false [], .str [], .str [], .bool false] none, .arr 25 6 0 i (((evs.take i).flatMap ofS).map Ac.av)]) (fun i => evs.length - i) 0 ?_ ?_
 ·exact ⟨Nat.zero_le _, by (simp only [go_sem, *]; try rfl), by (simp only [go_sem, *]; try rfl), by (simp only [go_sem, *]; try rfl), by (simp only [go_sem, *]; try rfl), by (simp only [go_sem, *]; try rfl), by simp only [List.take_zero, List.flatMap_nil, List.length_nil]; (simp only [go_sem, *]; try rfl), by (simp only [go_sem, *]; try rfl), by simp⟩
 ·rintro i env S' ⟨hi, e0, f1, f5, f6, f7, f8, f9, rfl⟩ IH
  have HI := Lib.hid IH
  clear IH
  by_cases hlt : i < evs.length
  ·obtain ⟨e, hx⟩ : ∃ e, evs[i]? = some e := ⟨_, List.getElem?_eq_getElem hlt⟩
   have h1 : decide ((i : Int) < (evs.length : Int)) = true := by simpa using hlt
   have hw : IntKind.i64.wrap ((i : Int) + 1) = ((i + 1 : Nat) : Int) := by have := HLL.out.2.2; rw [IntWalk.i64_in _ (by omega)]; omega
   have Hsu := Lib.hid (flat_succ (f := ofS) hx)
   have hc := fun S' => HOf.out S' e (List.mem_of_getElem? hx)
   have hfl := flat_le ofS evs (i + 1)
   rw [HLL.out.1, Hsu.out, List.length_append] at hfl
   have hfl2 := HLL.out.2.1
   generalize (evs.take i).flatMap ofS = F at hfl Hsu f8 ⊢
   generalize hG : ofS e = G at hfl Hsu hc
   have hb : (F.length + G.length) * 56 ≤ 140737488355328 := by omega
   have okG := Ac.ok G
   simp only [okEls, AV.cells] at okG
   have Hlt := Lib.hid hlt
   obtain ⟨k1, k2, k3, k4, k5, k6, k7⟩ := e
   have hev : Ev.av ⟨k1, k2, k3, k4, k5, k6, k7⟩ = .agg [.int .i64 k1, .int .i64 k2, .int .u8 k3, .int .u8 k4, .sval false (k5.map PmV), .str k6, .str k7] := rfl
   rw [hev] at hc
   clear hlt hi hfl hfl2 hG
   repeat' first | refine st ?_ | (refine ca ?_; first | apply hc) | (refine br ?_ ?_; all_goals (intro hb; try simp only [bnn] at hb)) | fail
   refine HI.out (i + 1) _ _ (by have := Hlt.out; omega) ⟨Hlt.out, ?_, ?_, ?_, ?_, ?_, ?_, ?_, ?_⟩
   ·(simp only [go_sem, *]; try rfl)
   ·(simp only [go_sem, *]; try rfl)
   ·(simp only [go_sem, *]; try rfl)
   ·(simp only [go_sem, *]; try rfl)
   ·(simp only [go_sem, *]; try rfl)
   ·rw [Hsu.out, List.length_append]; (simp only [go_sem, *]; try rfl)
   ·(simp only [go_sem, *]; try rfl)
   ·rw [Hsu.out, List.map_append]
  ·have h1 : decide ((i : Int) < (evs.length : Int)) = false := by simpa using hlt
   have htk : evs.take i = evs := List.take_of_length_le (by omega)
   rw [htk, HLL.out.1] at f8
   rw [htk, HLL.out.1]
   have hsm := HSm.out
   have hr9 := HR9.out
   have hle : (L.map Ac.av).length = L.length := by simp
   clear hlt hi htk HI
   repeat' ((fail_if_success (apply x_stopR 10)); first | refine st ?_ | (refine br ?_ ?_; all_goals (intro hb; try simp only [bnn] at hb)) | fail)
   refine x_mark (S.length + 1) (by (simp only [go_sem, *]; try rfl)) ?_
   repeat' first | refine st ?_ | (refine ca ?_; first | apply hsm | apply hr9) | (refine br ?_ ?_; all_goals (intro hb; try simp only [bnn] at hb)) | fail
   (apply f_ret; iterate 7 (· simp only [go_sem, *, Tryz.results19]; try rfl))
   exact H.out
structure Base (w0 : World) : Prop where
 hM : MarksOk w0
 hW : WidesOk w0
 hQ : PrintOk w0
 hP : ParseOk w0
def isB (s : List UInt8) (L : List Ac) : Bool :=
 decide (feedS (begS 0) (s.map UInt8.toNat) = (begS 0, (feedS (begS 0) (s.map UInt8.toNat)).2)) && ((feedS (begS 0) (s.map UInt8.toNat)).2.all evIs && (decide ((feedS (begS 0) (s.map UInt8.toNat)).2.flatMap ofS = L) && (decide (L.length ≤ 1000))))
theorem isC (w0 : World) (hB : Base w0) (s : List UInt8) (L : List Ac) (hs : s.length ≤ 4096) (h : isB s L = true) (S : List Blk) (R : Rt) (hR : R (.ret (.bool true)) S) : ACall Tryz.prog w0 19 [.str s, .sval false (L.map Ac.av)] S R := by
 unfold isB at h
 simp only [Bool.and_eq_true, decide_eq_true_eq] at h
 exact lIs w0 hB.hM hB.hW hB.hQ hB.hP S s hs _ h.1 h.2.1 L h.2.2.1 (by omega) R hR
theorem iw0 (w0 : World) (hB : Base w0) : ∀ (S : List Blk) (R : Rt), R (.ret (.bool true)) S → ACall Tryz.prog w0 19 [.str [27, 91, 53, 59, 48, 72, 27, 91, 72], .sval false [.agg [.int .i64 19, .int .i64 5, .int .i64 1, .int .i64 0, .int .i64 0, .str []], .agg [.int .i64 19, .int .i64 1, .int .i64 1, .int .i64 0, .int .i64 0, .str []]]] S R :=
 fun S R h => isC w0 hB [27, 91, 53, 59, 48, 72, 27, 91, 72] [acN 19 5 1, acN 19 1 1] (by decide +kernel) (by decide +kernel) S R h
theorem iw1 (w0 : World) (hB : Base w0) : ∀ (S : List Blk) (R : Rt), R (.ret (.bool true)) S → ACall Tryz.prog w0 19 [.str [27, 91, 63, 50, 53, 59, 55, 108], .sval false [.agg [.int .i64 37, .int .i64 25, .int .i64 0, .int .i64 0, .int .i64 0, .str []], .agg [.int .i64 37, .int .i64 7, .int .i64 0, .int .i64 0, .int .i64 0, .str []]]] S R :=
 fun S R h => isC w0 hB [27, 91, 63, 50, 53, 59, 55, 108] [acN 37 25 0, acN 37 7 0] (by decide +kernel) (by decide +kernel) S R h
theorem iw2 (w0 : World) (hB : Base w0) : ∀ (S : List Blk) (R : Rt), R (.ret (.bool true)) S → ACall Tryz.prog w0 19 [.str [27, 91, 51, 75, 27, 91, 50, 75], .sval false [.agg [.int .i64 27, .int .i64 2, .int .i64 0, .int .i64 0, .int .i64 0, .str []]]] S R :=
 fun S R h => isC w0 hB [27, 91, 51, 75, 27, 91, 50, 75] [acN 27 2 0] (by decide +kernel) (by decide +kernel) S R h
theorem iw3 (w0 : World) (hB : Base w0) : ∀ (S : List Blk) (R : Rt), R (.ret (.bool true)) S → ACall Tryz.prog w0 19 [.str [27, 41, 48, 27, 40, 65], .sval false [.agg [.int .i64 17, .int .i64 1, .int .i64 1, .int .i64 0, .int .i64 0, .str []]]] S R :=
 fun S R h => isC w0 hB [27, 41, 48, 27, 40, 65] [acN 17 1 1] (by decide +kernel) (by decide +kernel) S R h
theorem iw4 (w0 : World) (hB : Base w0) : ∀ (S : List Blk) (R : Rt), R (.ret (.bool true)) S → ACall Tryz.prog w0 19 [.str [27, 91, 63, 54, 36, 112, 27, 91, 52, 32, 113], .sval false [.agg [.int .i64 43, .int .i64 6, .int .i64 1, .int .i64 0, .int .i64 0, .str []], .agg [.int .i64 40, .int .i64 4, .int .i64 0, .int .i64 0, .int .i64 0, .str []]]] S R :=
 fun S R h => isC w0 hB [27, 91, 63, 54, 36, 112, 27, 91, 52, 32, 113] [acN 43 6 1, acN 40 4 0] (by decide +kernel) (by decide +kernel) S R h
theorem iw5 (w0 : World) (hB : Base w0) : ∀ (S : List Blk) (R : Rt), R (.ret (.bool true)) S → ACall Tryz.prog w0 19 [.str [27, 93, 50, 59, 116, 7, 5], .sval false [.agg [.int .i64 44, .int .i64 0, .int .i64 0, .int .i64 0, .int .i64 0, .str [116]]]] S R :=
 fun S R h => isC w0 hB [27, 93, 50, 59, 116, 7, 5] [⟨44, 0, 0, 0, 0, [116]⟩] (by decide +kernel) (by decide +kernel) S R h
theorem of9f (w0 : World) (hB : Base w0) : ∀ (S : List Blk) (R : Rt), R (.ret (.tup [.sval false [], .int .i64 0])) S → ACall Tryz.prog w0 17 [.agg [.int .i64 1, .int .i64 159, .int .u8 0, .int .u8 0, .sval false [], .str [], .str []]] S R := by
 intro S R h
 have e1 : evOk ⟨1, 159, 0, 0, [], [], []⟩ = true := by decide +kernel
 have e2 : ofS ⟨1, 159, 0, 0, [], [], []⟩ = [] := by decide +kernel
 have k := aOf w0 hB.hM hB.hW hB.hQ hB.hP S ⟨1, 159, 0, 0, [], [], []⟩ ⟨by decide, by simp⟩ (by decide) (fun _ hk => by cases hk) R
 rw [e1, e2] at k
 exact k h
set_option maxHeartbeats 16000000 in
theorem lWorks (w0 : World) (hB : Base w0) (S : List Blk) (R : Rt) (h : R (.ret (.bool true)) S) : ACall Tryz.prog w0 13 [] S R := by
 have hac := lAc w0
 have h9 := of9f w0 hB
 have k0 := iw0 w0 hB
 have k1 := iw1 w0 hB
 have k2 := iw2 w0 hB
 have k3 := iw3 w0 hB
 have k4 := iw4 w0 hB
 have k5 := iw5 w0 hB
 have e0 : (((0 : Nat) : Int) == 0) = true := rfl
 have H := Lib.hid h
 clear h hB
 refine en Tryz.func13 rfl Tryz.ntmps13 fun hO => ?_
 repeat' ((fail_if_success (apply x_stop 8 rfl)); first | refine st ?_ | (refine ca ?_; first | apply hac | apply h9) | (refine br ?_ ?_; all_goals (intro hb; try simp only [bnn] at hb)) | fail)
 refine x_mark (S.length) (by (simp only [go_sem, *]; try rfl)) ?_
 repeat' ((fail_if_success (apply x_stop 13 rfl)); first | refine st ?_ | (refine ca ?_; first | apply hac | apply h9 | apply k0) | (refine br ?_ ?_; all_goals (intro hb; try simp only [bnn] at hb)) | fail)
 refine x_mark (S.length + 1) (by (simp only [go_sem, *]; try rfl)) ?_
 repeat' ((fail_if_success (apply x_stop 18 rfl)); first | refine st ?_ | (refine ca ?_; first | apply hac | apply h9 | apply k0 | apply k1) | (refine br ?_ ?_; all_goals (intro hb; try simp only [bnn] at hb)) | fail)
 refine x_mark (S.length + 2) (by (simp only [go_sem, *]; try rfl)) ?_
 repeat' ((fail_if_success (apply x_stop 22 rfl)); first | refine st ?_ | (refine ca ?_; first | apply hac | apply h9 | apply k0 | apply k1 | apply k2) | (refine br ?_ ?_; all_goals (intro hb; try simp only [bnn] at hb)) | fail)
 refine x_mark (S.length + 3) (by (simp only [go_sem, *]; try rfl)) ?_
 repeat' ((fail_if_success (apply x_stop 27 rfl)); first | refine st ?_ | (refine ca ?_; first | apply hac | apply h9 | apply k0 | apply k1 | apply k2 | apply k3) | (refine br ?_ ?_; all_goals (intro hb; try simp only [bnn] at hb)) | fail)
 refine x_mark (S.length + 4) (by (simp only [go_sem, *]; try rfl)) ?_
 repeat' ((fail_if_success (apply x_stop 41 rfl)); first | refine st ?_ | (refine ca ?_; first | apply hac | apply h9 | apply k0 | apply k1 | apply k2 | apply k3 | apply k4) | (refine br ?_ ?_; all_goals (intro hb; try simp only [bnn] at hb)) | fail)
 refine x_mark (S.length + 5) (by (simp only [go_sem, *]; try rfl)) ?_
 repeat' first | refine st ?_ | (refine ca ?_; first | apply hac | apply h9 | apply k0 | apply k1 | apply k2 | apply k3 | apply k4 | apply k5) | (refine br ?_ ?_; all_goals (intro hb; try simp only [bnn] at hb)) | fail
 (apply f_ret; iterate 7 (· simp only [go_sem, *, Tryz.results13]; try rfl))
 exact H.out
end Go.Proofs.YthdbijpefkapnaaGreatDoor
