/- YtecgddmmdgccfaaGreatDoorWalk1. Texts of the proof of a law about texts: a layer of abstract values above the worlds, the types, the walks of the functions that the law reaches, the law and its card. Own work of an AI agent. -/
import Derived.Test.YtecgddmmdgccfaaGreatDoorWalk0
import Derived.Test.YtecgddmmdgccfaaGreatDoorCore4
import Derived.Lib.Bytealg
set_option linter.all false
set_option linter.unusedVariables false
set_option linter.unusedSimpArgs false
namespace Go.Proofs.YtecgddmmdgccfaaGreatDoor
open Go Go.Fen
set_option linter.unusedSimpArgs false
set_option linter.unusedVariables false
attribute [local irreducible] RunX WP ACall AnyP OpA ProtL afterCall afterOp
set_option maxRecDepth 8000
open Go.Fen.Ex
def GT (g : Nat) : AV := match g with
  | 0 => .pro [.int .i64 768, .int .i64 879, .int .i64 1155, .int .i64 1161, .int .i64 1425, .int .i64 1469, .int .i64 1552, .int .i64 1562, .int .i64 1611, .int .i64 1631, .int .i64 6832, .int .i64 6911, .int .i64 7616, .int .i64 7679, .int .i64 8203, .int .i64 8207, .int .i64 8400, .int .i64 8447, .int .i64 65024, .int .i64 65039, .int .i64 65056, .int .i64 65071]
  | 1 => .pro [.int .i64 4352, .int .i64 4447, .int .i64 11904, .int .i64 12350, .int .i64 12353, .int .i64 19903, .int .i64 19968, .int .i64 42191, .int .i64 44032, .int .i64 55203, .int .i64 63744, .int .i64 64255, .int .i64 65072, .int .i64 65135, .int .i64 65280, .int .i64 65376, .int .i64 65504, .int .i64 65510, .int .i64 127744, .int .i64 128591, .int .i64 128640, .int .i64 128767, .int .i64 129280, .int .i64 129535, .int .i64 131072, .int .i64 262141]
  | 2 => .pro [.int .i64 32, .int .i64 9670, .int .i64 9618, .int .i64 9225, .int .i64 9228, .int .i64 9229, .int .i64 9226, .int .i64 176, .int .i64 177, .int .i64 9252, .int .i64 9227, .int .i64 9496, .int .i64 9488, .int .i64 9484, .int .i64 9492, .int .i64 9532, .int .i64 9146, .int .i64 9147, .int .i64 9472, .int .i64 9148, .int .i64 9149, .int .i64 9500, .int .i64 9508, .int .i64 9524, .int .i64 9516, .int .i64 9474, .int .i64 8804, .int .i64 8805, .int .i64 960, .int .i64 8800, .int .i64 163, .int .i64 183]
  | 3 => .pro [.int .i64 1, .int .i64 1, .int .i64 22, .int .i64 2, .int .i64 2, .int .i64 22, .int .i64 4, .int .i64 3, .int .i64 23, .int .i64 8, .int .i64 5, .int .i64 25, .int .i64 16, .int .i64 7, .int .i64 27, .int .i64 32, .int .i64 8, .int .i64 28, .int .i64 64, .int .i64 9, .int .i64 29, .int .i64 128, .int .i64 53, .int .i64 55]
  | 7 => .pro [.int .i64 0, .int .i64 13434880, .int .i64 52480, .int .i64 13487360, .int .i64 238, .int .i64 13435085, .int .i64 52685, .int .i64 15066597, .int .i64 8355711, .int .i64 16711680, .int .i64 65280, .int .i64 16776960, .int .i64 6053119, .int .i64 16711935, .int .i64 65535, .int .i64 16777215]
  | 8 => .pro [.int .u64 1, .int .u64 10, .int .u64 100, .int .u64 1000, .int .u64 10000, .int .u64 100000, .int .u64 1000000, .int .u64 10000000, .int .u64 100000000, .int .u64 1000000000, .int .u64 10000000000, .int .u64 100000000000, .int .u64 1000000000000, .int .u64 10000000000000, .int .u64 100000000000000, .int .u64 1000000000000000, .int .u64 10000000000000000, .int .u64 100000000000000000, .int .u64 1000000000000000000, .int .u64 10000000000000000000]
  | 10 => .pro [.int .u8 128, .int .u8 191, .int .u8 160, .int .u8 191, .int .u8 128, .int .u8 159, .int .u8 144, .int .u8 191, .int .u8 128, .int .u8 143, .int .u8 0, .int .u8 0, .int .u8 0, .int .u8 0, .int .u8 0, .int .u8 0, .int .u8 0, .int .u8 0, .int .u8 0, .int .u8 0, .int .u8 0, .int .u8 0, .int .u8 0, .int .u8 0, .int .u8 0, .int .u8 0, .int .u8 0, .int .u8 0, .int .u8 0, .int .u8 0, .int .u8 0, .int .u8 0]
  | 11 => .pro [.int .u8 0, .int .u8 1, .int .u8 28, .int .u8 2, .int .u8 29, .int .u8 14, .int .u8 24, .int .u8 3, .int .u8 30, .int .u8 22, .int .u8 20, .int .u8 15, .int .u8 25, .int .u8 17, .int .u8 4, .int .u8 8, .int .u8 31, .int .u8 27, .int .u8 13, .int .u8 23, .int .u8 21, .int .u8 19, .int .u8 16, .int .u8 7, .int .u8 26, .int .u8 12, .int .u8 18, .int .u8 6, .int .u8 11, .int .u8 5, .int .u8 10, .int .u8 9]
  | 12 => .pro [.int .u8 0, .int .u8 1, .int .u8 56, .int .u8 2, .int .u8 57, .int .u8 49, .int .u8 28, .int .u8 3, .int .u8 61, .int .u8 58, .int .u8 42, .int .u8 50, .int .u8 38, .int .u8 29, .int .u8 17, .int .u8 4, .int .u8 62, .int .u8 47, .int .u8 59, .int .u8 36, .int .u8 45, .int .u8 43, .int .u8 51, .int .u8 22, .int .u8 53, .int .u8 39, .int .u8 33, .int .u8 30, .int .u8 24, .int .u8 18, .int .u8 12, .int .u8 5, .int .u8 63, .int .u8 55, .int .u8 48, .int .u8 27, .int .u8 60, .int .u8 41, .int .u8 37, .int .u8 16, .int .u8 46, .int .u8 35, .int .u8 44, .int .u8 21, .int .u8 52, .int .u8 32, .int .u8 23, .int .u8 11, .int .u8 54, .int .u8 26, .int .u8 40, .int .u8 15, .int .u8 34, .int .u8 20, .int .u8 31, .int .u8 10, .int .u8 25, .int .u8 14, .int .u8 19, .int .u8 9, .int .u8 13, .int .u8 8, .int .u8 7, .int .u8 6]
  | _ => .junk
theorem gt_of {w0 : World} (h : GOk GT w0) (g : Nat) (l : List AV) (e : GT g = .pro l) : gl w0 g = .pro l := by
  rcases h g with h | h
  · rw [h] at e; cases e
  · rw [← h, e]
theorem gt_marks {w0 : World} (h : GOk GT w0) : MarksOk w0 := gt_of h _ _ (by kernel_rfl)
theorem gt_wides {w0 : World} (h : GOk GT w0) : WidesOk w0 := gt_of h _ _ (by kernel_rfl)
theorem gt_attrs {w0 : World} (h : GOk GT w0) : AttrsOk w0 := gt_of h _ _ (by kernel_rfl)
theorem two_args {cargs : Array Value} {x y : AV} (h : [x, y].length = cargs.size) : ∃ c d, cargs = #[c, d] := by
  have h1 : cargs.size = 2 := by simpa using h.symm
  refine ⟨cargs[0], cargs[1], ?_⟩
  apply Array.ext (by simpa using h1)
  intro i h2 h3
  have : i = 0 ∨ i = 1 := by omega
  rcases this with rfl | rfl <;> rfl
theorem xNo (w0 : World) (x : AV) : XOk Tryz.prog w0 351 [x] x := by
  intro ι ψ S w cargs hR hl hv
  obtain ⟨c, rfl⟩ : ∃ c, cargs = #[c] := by
    have h1 : cargs.size = 1 := by simpa using hl.symm
    exact ⟨cargs[0], by apply Array.ext (by simpa using h1); intro i h2 h3; have : i = 0 := by omega
                        subst this; rfl⟩
  refine ⟨c, ?_, hv 0 x c rfl rfl⟩
  rw [run_callFunc_extern Tryz.func351 (by kernel_rfl) (by kernel_rfl) (by kernel_rfl) (by kernel_rfl), Lib.run_noEscape]; rfl
theorem xIx (w0 : World) (s : List UInt8) (n : Int) : XOk Tryz.prog w0 462 [.str s, .int .u8 n] (.int .i64 (Lib.indexByte s n.toNat.toUInt8)) := by
  intro ι ψ S w cargs hR hl hv
  obtain ⟨c, d, rfl⟩ := two_args hl
  have h1 := hv 0 _ c rfl rfl
  have h2 := hv 1 _ d rfl rfl
  cases h1 with
  | str _ b hb =>
  cases h2 with
  | int _ _ =>
  subst hb
  refine ⟨_, ?_, .int _ _⟩
  rw [run_callFunc_extern Tryz.func462 (by kernel_rfl) (by kernel_rfl) (by kernel_rfl) (by kernel_rfl), Lib.run_indexByteString]; rfl
theorem xCt (w0 : World) (s : List UInt8) (n : Int) : XOk Tryz.prog w0 467 [.str s, .int .u8 n] (.int .i64 (Lib.countByte s n.toNat.toUInt8)) := by
  intro ι ψ S w cargs hR hl hv
  obtain ⟨c, d, rfl⟩ := two_args hl
  have h1 := hv 0 _ c rfl rfl
  have h2 := hv 1 _ d rfl rfl
  cases h1 with
  | str _ b hb =>
  cases h2 with
  | int _ _ =>
  subst hb
  refine ⟨_, ?_, .int _ _⟩
  rw [run_callFunc_extern Tryz.func467 (by kernel_rfl) (by kernel_rfl) (by kernel_rfl) (by kernel_rfl), Lib.run_countString]; rfl
noncomputable def X0 (g : Nat) (A : List AV) : Option AV :=
  if Nat.beq g 351 = true then (match A with | [x] => some x | _ => none)
  else if Nat.beq g 462 = true then (match A with | [.str s, .int .u8 c] => some (.int .i64 (Lib.indexByte s c.toNat.toUInt8)) | _ => none)
  else if Nat.beq g 467 = true then (match A with | [.str s, .int .u8 c] => some (.int .i64 (Lib.countByte s c.toNat.toUInt8)) | _ => none)
  else none
theorem x0_ok (w0 : World) (g : Nat) (A : List AV) (v : AV) (h : X0 g A = some v) : XOk Tryz.prog w0 g A v := by
  unfold X0 at h
  split at h
  · next hg =>
    obtain rfl := Nat.eq_of_beq_eq_true hg
    split at h
    · cases h; exact xNo w0 _
    · cases h
  · split at h
    · next hg =>
      obtain rfl := Nat.eq_of_beq_eq_true hg
      split at h
      · cases h; exact xIx w0 _ _
      · cases h
    · split at h
      · next hg =>
        obtain rfl := Nat.eq_of_beq_eq_true hg
        split at h
        · cases h; exact xCt w0 _ _
        · cases h
      · cases h
def TOk (g : Nat) (args : List AV) (S : List Blk) (o : AOut) (S' : List Blk) : Prop := FrL S S' ∧ ∀ w0, GOk GT w0 → ACall Tryz.prog w0 g args S (fun o2 S2 => o2 = o ∧ S2 = S')
theorem frMark (S : List Blk) (a : Nat) : FrL S (markFull S a) := by
  unfold markFull
  split
  · next h => exact FrL.set h rfl
  · next h => exact FrL.set h rfl
  · exact FrL.refl _
def shS (x : AV) : List Nat := match x with
  | .sown a _ _ => [a]
  | _ => []
theorem frSh (x : AV) (S : List Blk) : FrL S ((shS x).foldl markFull S) := by
  unfold shS
  split
  · exact frMark _ _
  · exact FrL.refl _
noncomputable def frz1 (S : List Blk) (x : AV) : AV := conv ((shS x).foldl markFull S) (frA ((shS x).foldl markFull S)) 4 x
theorem conv_pl (S : List Blk) (f : Nat → Bool) (d : Nat) {x : AV} (h : x.plain = true) : conv S f d x = x := by
  cases d <;> simp [conv, h]
noncomputable def tRep (args : List AV) (S : List Blk) : Option (AOut × List Blk) := match args with
  | [x, .int .i64 n] => (match frz1 S x with
    | .sval _ [c] => if (okEls 12 [c] && (decide (1 ≤ n) && decide (n ≤ 1000))) = true then some (.ret (.sown ((shS x).foldl markFull S).length 0 n.toNat), (shS x).foldl markFull S ++ [.arr 85 12 0 0 (List.replicate n.toNat c)]) else none
    | _ => none)
  | _ => none
theorem tRep_ok {args : List AV} {S S' : List Blk} {o : AOut} (h : tRep args S = some (o, S')) : TOk 129 args S o S' := by
  unfold tRep at h
  split at h
  · next x n =>
    split at h
    · next f c hx =>
      split at h
      · next hc =>
        simp only [Bool.and_eq_true, decide_eq_true_eq] at hc
        cases h
        refine ⟨(frSh x S).trans (FrL.app _ _), fun w0 hG => ?_⟩
        obtain ⟨m, rfl⟩ : ∃ m : Nat, n = m := ⟨n.toNat, by omega⟩
        refine ACall.marked (shS x) rfl (args' := [.sval f [c], .int .i64 (m : Int)]) ?_ (rRepeat w0 _ f c m (by omega) (by omega) hc.1 _ ⟨rfl, rfl⟩)
        show [frz1 S x, conv _ _ 4 (.int .i64 (m : Int))] = _
        rw [hx, conv_pl _ _ _ rfl]
      · cases h
    · cases h
  · cases h
def strsA : List AV → Option (List (List UInt8))
  | [] => some []
  | .str s :: l => (match strsA l with
    | some r => some (s :: r)
    | none => none)
  | _ => none
theorem strsA_eq : ∀ {l : List AV} {r : List (List UInt8)}, strsA l = some r → l = r.map AV.str
  | [], r, h => by cases h; rfl
  | x :: l, r, h => by
    cases x <;> simp only [strsA] at h <;> try (cases h; done)
    split at h
    · next r' hr => cases h; rw [strsA_eq hr]; rfl
    · cases h
noncomputable def tJoin (args : List AV) (S : List Blk) : Option (AOut × List Blk) := match args with
  | [x, .str sep] => (match frz1 S x with
    | .sval false l => (match strsA l with
      | some r => if (!r.isEmpty && (decide (r.length ≤ 140737488355328) && decide ((Lib.join r sep).length ≤ 140737488355328))) = true then some (.ret (.str (Lib.join r sep)), (shS x).foldl markFull S) else none
      | none => none)
    | _ => none)
  | _ => none
theorem tJoin_ok {args : List AV} {S S' : List Blk} {o : AOut} (h : tJoin args S = some (o, S')) : TOk 182 args S o S' := by
  unfold tJoin at h
  split at h
  · next x sep =>
    split at h
    · next l hx =>
      split at h
      · next r hr =>
        split at h
        · next hc =>
          simp only [Bool.and_eq_true, decide_eq_true_eq, Bool.not_eq_true'] at hc
          cases h
          obtain rfl := strsA_eq hr
          refine ⟨frSh x S, fun w0 hG => ?_⟩
          refine ACall.marked (shS x) rfl (args' := [.sval false (r.map AV.str), .str sep]) ?_ (cJoin w0 _ r sep (fun e => by rw [e] at hc; simp at hc) hc.2.1 hc.2.2 _ ⟨rfl, rfl⟩)
          show [frz1 S x, conv _ _ 4 (.str sep)] = _
          rw [hx, conv_pl _ _ _ rfl]
        · cases h
      · cases h
    · cases h
  · cases h
noncomputable def tWid (args : List AV) (S : List Blk) : Option (AOut × List Blk) := match args with
  | [.int .i64 c] => some (.ret (.int .i64 (widthOf c)), S)
  | _ => none
theorem tWid_ok {args : List AV} {S S' : List Blk} {o : AOut} (h : tWid args S = some (o, S')) : TOk 93 args S o S' := by
  unfold tWid at h
  split at h
  · cases h; exact ⟨FrL.refl _, fun w0 hG => wOf w0 (gt_marks hG) (gt_wides hG) S _ _ ⟨rfl, rfl⟩⟩
  · cases h
noncomputable def tGrow (args : List AV) (S : List Blk) : Option (AOut × List Blk) := match args with
  | [.snil, .int .i64 n] => if (decide (1 ≤ n) && decide (n ≤ 100000)) = true then some (.ret (.sown S.length 0 0), S ++ [.arr 82 2 0 0 []]) else none
  | _ => none
theorem tGrow_ok {args : List AV} {S S' : List Blk} {o : AOut} (h : tGrow args S = some (o, S')) : TOk 230 args S o S' := by
  unfold tGrow at h
  split at h
  · next n =>
    split at h
    · next hc =>
      simp only [Bool.and_eq_true, decide_eq_true_eq] at hc
      cases h
      obtain ⟨m, rfl⟩ : ∃ m : Nat, n = m := ⟨n.toNat, by omega⟩
      exact ⟨FrL.app _ _, fun w0 hG => growRow w0 S m (by omega) (by omega) _ ⟨rfl, rfl⟩⟩
    · cases h
  · cases h
noncomputable def T0 (g : Nat) (args : List AV) (S : List Blk) : Option (AOut × List Blk) :=
  if Nat.beq g 93 = true then tWid args S
  else if Nat.beq g 129 = true then tRep args S
  else if Nat.beq g 182 = true then tJoin args S
  else if Nat.beq g 230 = true then tGrow args S
  else if Nat.beq g 107 = true then (match args with | [] => some (.ret (.mval escA), S) | _ => none)
  else if Nat.beq g 109 = true then (match args with | [] => some (.ret (.mval seqA), S) | _ => none)
  else if Nat.beq g 332 = true then (match args with | [] => some (.ret (.mval simE), S) | _ => none)
  else none
theorem t0_ok {g : Nat} {args : List AV} {S S' : List Blk} {o : AOut} (h : T0 g args S = some (o, S')) : TOk g args S o S' := by
  unfold T0 at h
  split at h
  · next hg => obtain rfl := Nat.eq_of_beq_eq_true hg; exact tWid_ok h
  split at h
  · next hg => obtain rfl := Nat.eq_of_beq_eq_true hg; exact tRep_ok h
  split at h
  · next hg => obtain rfl := Nat.eq_of_beq_eq_true hg; exact tJoin_ok h
  split at h
  · next hg => obtain rfl := Nat.eq_of_beq_eq_true hg; exact tGrow_ok h
  split at h
  · next hg =>
    obtain rfl := Nat.eq_of_beq_eq_true hg
    split at h
    · cases h; exact ⟨FrL.refl _, fun w0 hG => aEscapes w0 S _ ⟨rfl, rfl⟩⟩
    · cases h
  split at h
  · next hg =>
    obtain rfl := Nat.eq_of_beq_eq_true hg
    split at h
    · cases h; exact ⟨FrL.refl _, fun w0 hG => aSeqs w0 S _ ⟨rfl, rfl⟩⟩
    · cases h
  split at h
  · next hg =>
    obtain rfl := Nat.eq_of_beq_eq_true hg
    split at h
    · cases h; exact ⟨FrL.refl _, fun w0 hG => sSimple w0 (gt_attrs hG) S _ ⟨rfl, rfl⟩⟩
    · cases h
  · cases h
theorem mixedP : Tryz.prog.follows .mixedOrders = true := by kernel_rfl
theorem namesP : (Tryz.prog.funcs.toList.all fun F => !(F.name == "runtime.NumGoroutine") && decide (F.ntmps ≤ DS)) = true := by kernel_rfl
theorem hP (g : Nat) (F : Func) (h : Tryz.prog.funcs[g]? = some F) : (F.name == "runtime.NumGoroutine") = false ∧ F.ntmps ≤ DS := by
  have := List.all_eq_true.1 namesP F (by rw [Array.mem_toList_iff]; exact Array.mem_of_getElem? h)
  simpa using this
theorem run_ok {T : Nat → List AV → List Blk → Option (AOut × List Blk)} {M : Nat → Bool} (hT : ∀ g args S o S', T g args S = some (o, S') → TOk g args S o S') {n g : Nat} {args : List AV} {S S' : List Blk} {o : AOut}
    (h : (lvl Tryz.prog GT T M X0 n).call g args S = some (o, S')) (w0 : World) (hG : GOk GT w0) : ACall Tryz.prog w0 g args S (fun o2 S2 => o2 = o ∧ S2 = S') :=
  (lvl_ok mixedP hP (fun g args S o S' h => (hT g args S o S' h).1) (fun w0 hG g args S o S' h => (hT g args S o S' h).2 w0 hG) (fun w0 _ => x0_ok w0) n w0 hG).1.1 _ _ _ _ _ h
theorem lvl_frT {T : Nat → List AV → List Blk → Option (AOut × List Blk)} {M : Nat → Bool} (hT : ∀ g args S o S', T g args S = some (o, S') → TOk g args S o S') {n g : Nat} {args : List AV} {S S' : List Blk} {o : AOut}
    (h : (lvl Tryz.prog GT T M X0 n).call g args S = some (o, S')) : FrL S S' := (lvl_fr (fun g args S o S' h => (hT g args S o S' h).1) n).1 _ _ _ _ _ h
theorem tok_of {T : Nat → List AV → List Blk → Option (AOut × List Blk)} {M : Nat → Bool} (hT : ∀ g args S o S', T g args S = some (o, S') → TOk g args S o S') {n g : Nat} {args : List AV} {S S' : List Blk} {o : AOut}
    (h : (lvl Tryz.prog GT T M X0 n).call g args S = some (o, S')) : TOk g args S o S' := ⟨lvl_frT hT h, fun w0 hG => run_ok hT h w0 hG⟩
noncomputable def eqArgs (a b : List AV) : Bool := eqC (.agg a) (.agg b)
theorem eqArgs_eq {a b : List AV} (h : eqArgs a b = true) : a = b := by
  have := eqC_sound _ _ h
  cases this; rfl
noncomputable def eqB1 (B C : Blk) : Bool := match B, C with
  | .dead, .dead => true
  | B, C => sameBlk (some B) (some C)
theorem eqB1_eq {B C : Blk} (h : eqB1 B C = true) : B = C := by
  unfold eqB1 at h
  split at h
  · rfl
  · exact Option.some.inj (sameBlk_sound _ _ h)
noncomputable def eqMem : List Blk → List Blk → Bool
  | [], [] => true
  | B :: l, C :: m => eqB1 B C && eqMem l m
  | [], _ :: _ => false
  | _ :: _, [] => false
theorem eqMem_eq : ∀ {a b : List Blk}, eqMem a b = true → a = b
  | [], [], _ => rfl
  | B :: l, C :: m, h => by
    simp only [eqMem, Bool.and_eq_true] at h
    rw [eqB1_eq h.1, eqMem_eq h.2]
  | [], _ :: _, h => by cases h
  | _ :: _, [], h => by cases h
noncomputable def addC (g0 : Nat) (a0 : List AV) (S0 : List Blk) (o0 : AOut) (S1 : List Blk) (T : Nat → List AV → List Blk → Option (AOut × List Blk)) : Nat → List AV → List Blk → Option (AOut × List Blk) := fun g args S =>
  if (Nat.beq g g0 && (eqArgs args a0 && eqMem S S0)) = true then some (o0, S1) else T g args S
theorem addC_ok {g0 : Nat} {a0 : List AV} {S0 S1 : List Blk} {o0 : AOut} {T : Nat → List AV → List Blk → Option (AOut × List Blk)} (h0 : TOk g0 a0 S0 o0 S1) (hT : ∀ g args S o S', T g args S = some (o, S') → TOk g args S o S') :
    ∀ g args S o S', addC g0 a0 S0 o0 S1 T g args S = some (o, S') → TOk g args S o S' := by
  intro g args S o S' h
  unfold addC at h
  split at h
  · next hc =>
    simp only [Bool.and_eq_true] at hc
    obtain rfl := Nat.eq_of_beq_eq_true hc.1
    obtain rfl := eqArgs_eq hc.2.1
    obtain rfl := eqMem_eq hc.2.2
    cases h
    exact h0
  · exact hT _ _ _ _ _ h
def M0 (g : Nat) : Bool := [100000 + 66, 12, 21, 22, 48, 51, 69, 71, 72, 75, 88, 90, 91, 92, 131, 232, 306, 307].any (Nat.beq g)
end Go.Proofs.YtecgddmmdgccfaaGreatDoor
