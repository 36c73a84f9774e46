/- YtecgddmmdgccfaaGreatDoorWalk22. Texts of the proof of a law about texts: a layer of abstract values above the worlds, the types, the walks of the functions that the law reaches, the law and its card. Own work of an AI agent. -/
import Derived.Test.YtecgddmmdgccfaaGreatDoorWalk2
import Derived.Test.YtecgddmmdgccfaaGreatDoorWalk21
set_option linter.all false
set_option linter.unusedVariables false
set_option linter.unusedSimpArgs false
namespace Go.Proofs.YtecgddmmdgccfaaGreatDoor
open Go Go.Fen
set_option linter.unusedSimpArgs false
set_option linter.unusedVariables false
attribute [local irreducible] RunX WP ACall AnyP OpA ProtL afterCall afterOp
set_option maxRecDepth 8000
theorem goes_none {P : Program} (h : (P.funcs.toList.all fun F => !F.goes) = true) (s : String) : P.goesFrom s = false := by
  have h0 : ∀ F : Func, F ∈ P.funcs.toList → F.goes = false := fun F hF => by simpa using List.all_eq_true.1 h F hF
  have h1 : ∀ f, P.goes f = false := fun f => by
    unfold Program.goes
    have a : ((P.closure f).any fun g => (P.funcs[g]?).any Func.goes) = false := by
      rw [List.any_eq_false]
      intro g _
      cases hg : P.funcs[g]? with
      | none => simp
      | some F => simpa using h0 F (by rw [Array.mem_toList_iff]; exact Array.mem_of_getElem? hg)
    have b : P.funcs.any Func.goes = false := by
      rw [← Array.any_toList, List.any_eq_false]
      intro F hF
      simpa using h0 F hF
    rw [a, b]; simp
  unfold Program.goesFrom
  cases P.funcNamed s with
  | none => rfl
  | some f => simp [h1 f]
theorem goesBy_none {c : OpenClaim} {P : Program} (hs : c.start = .entering) (h : (P.funcs.toList.all fun F => !F.goes) = true) : false = c.goesBy P := by
  unfold OpenClaim.goesBy Program.goesAt
  rw [goes_none h, hs]
  rfl
namespace TermKnown
theorem contract (H : Type) (enc : TypeId × Value → H) (W : World) (base : Nat) (args : Array Value) (ds gs : List (DataW H)) (before : List MemPlace)
    (hval : ∀ (j : Nat) t v, Tryz.f3.params[j]? = some t → args[j]? = some v → Value.okWide Tryz.prog W .any base t v)
    (hW : DataW.Whole enc Tryz.prog Tryz.f3.params.toList Rows.termKnownSpec.vars false W args.toList ds gs before) (hL : laidMetH Tryz.prog seatLaid W) :
    Calls Tryz.prog 3 args W fun e W' => ∃ v, e = .returned v ∧ Rows.termKnownSpec.post enc Tryz.prog Tryz.f3 false true false false W args v W' := by
  refine law_close (n := 20) (tb := 4) [] laidOut ?_ (by rw [Tryz.params3]; kernel_rfl) (by kernel_rfl) un_4 rfl ?_ hW hval ?_
  · rw [Tryz.params3]
    have : ([].all fun t => Tryz.prog.readableRec t && decide (t < Tryz.prog.types.size)) = true := by kernel_rfl
    intro t ht
    simpa using List.all_eq_true.1 this t (by simpa using ht)
  · intro h
    rw [Tryz.params3] at h
    match ds, h with
    | [], _ => rfl
  · intro avs ha
    have e1 := ArgsH.nil' ha
    rw [e1]
    exact tk_law W (gt_laid hL)
def wit : Array Value := #[]
set_option maxRecDepth 100000 in
theorem lifted (os : Os) (started : os.Started) (H : Type) (enc : TypeId × Value → H) :
    ReturnsInHanded {} Tryz.checked os 3 .any (fun w args => (Rows.termKnownSpec.pre enc Tryz.prog Tryz.f3 Rows.termKnownRow.domain false w args ∧ laidMetH Tryz.prog seatLaid w) ∧ sizedMet enc Tryz.prog Tryz.f3 (OpenSpec.ofChange Rows.termKnownSpec) false w args)
      (Rows.termKnownSpec.post enc Tryz.prog Tryz.f3 false true false false) := by
  refine returnsInHanded_of_change_and (C := Tryz.checked) (X := fun w _ => laidMetH Tryz.prog seatLaid w) (fun _ _ _ hh h => h.of_heap hh) own started (by kernel_rfl) Tryz.func3
    (ChangeSpec.witness_shaped (enc := enc) (C := Tryz.checked) (os := os) (X := fun w _ => laidMetH Tryz.prog seatLaid w) false (World.laidAll Tryz.prog os seatLaid) wit 8 (World.laidAll_os _ _ _)
      (World.shaped_of_ZipB (by kernel_rfl) (by kernel_rfl)) (by kernel_rfl) (by kernel_rfl) (by kernel_rfl)
      (by rw [MakeChecks.laidMetH_plain _ _ _ (by kernel_rfl)]; exact laidMet_laidAll _ (by kernel_rfl) (by kernel_rfl))) ?_
  intro W base args ds gs before hval hW _ _ hL _
  exact contract H enc W base args ds gs before hval hW hL
theorem j1 : (Rows.termKnownRow.inPlace == Tryz.prog.inPlace 3) = true := by kernel_rfl
theorem j2 : (Rows.termKnownRow.unfollowed == Tryz.prog.unfollowed 3) = true := by kernel_rfl
theorem j3 : (Rows.termKnownRow.recurses == Tryz.prog.recurses 3) = true := by kernel_rfl
theorem j4 : (Rows.termKnownRow.named == Tryz.prog.varsNamed 3) = true := by kernel_rfl
theorem j5 : joinedFacts Tryz.prog 3 Tryz.f3 Rows.termKnownSpec Rows.termKnownRow = true := by
  simp only [joinedFacts, j1, j2, j3, j4, Bool.and_true]
  kernel_rfl
theorem said : Rows.TermKnownSaid :=
  OpenClaim.holds_of_wide 3 Tryz.f3 rfl rfl rfl rfl rfl rfl rfl ⟨rfl, rfl, rfl, rfl, rfl⟩ rfl rfl rfl rfl rfl (by kernel_rfl) Tryz.func3 j5
    (of_decide_eq_true (by kernel_rfl)) (by unfold Func.isWrapper; first | (rw [if_pos (by decide +kernel)]; kernel_rfl) | (rw [if_neg (by decide +kernel)]; exact ⟨rfl, rfl⟩))
    (fun os started H enc _ => lifted os started H enc)
theorem plainF (f : FuncId) (fn : Func) (hf : Tryz.pinned.checked.prog.funcNamed "fenestra/fenestralaw22.TermKnown" = some f) (hfn : Tryz.pinned.checked.prog.funcs[f]? = some fn) :
    true = Tryz.pinned.checked.prog.looks [] ∧ ∀ (j : Nat) t, fn.params[j]? = some t → Tryz.pinned.checked.prog.wantsStandIn t = false := by
  obtain rfl : f = 3 := Option.some.inj ((show Tryz.prog.funcNamed "fenestra/fenestralaw22.TermKnown" = some 3 by kernel_rfl).symm.trans hf) |>.symm
  obtain rfl : fn = Tryz.f3 := (Option.some.inj (Tryz.func3.symm.trans hfn)).symm
  refine ⟨by kernel_rfl, fun j t ht => ?_⟩
  rw [Tryz.params3] at ht
  have hm : t ∈ [] := by simpa using Array.mem_of_getElem? ht
  have hall : ([].all fun u => !Tryz.prog.wantsStandIn u) = true := by kernel_rfl
  exact (show Tryz.prog.wantsStandIn t = false by simpa using List.all_eq_true.1 hall t hm)
theorem goNone : (Tryz.prog.funcs.toList.all fun F => !F.goes) = true := by decide +kernel
theorem card : Rows.TermKnownCardSaid :=
  Claim7.holds_tied_plain_at .later [] _ _ _ _ said (fun _ h => by cases h) (by kernel_rfl) (fun _ h => by cases h) termKnown_row_tie rfl ⟨rfl, rfl⟩ (by kernel_rfl) rfl plainF (goesBy_none rfl goNone)
end TermKnown
end Go.Proofs.YtecgddmmdgccfaaGreatDoor
