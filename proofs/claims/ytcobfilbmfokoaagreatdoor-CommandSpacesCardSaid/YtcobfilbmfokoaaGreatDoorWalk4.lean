/- YtcobfilbmfokoaaGreatDoorWalk4. Texts of the proof of a law about recordings: a layer of abstract values above the worlds, the types, the walks of the functions that the law reaches, the law and its card. Own work of an AI agent. -/
import Derived.Test.YtcobfilbmfokoaaGreatDoorWalk3
import Derived.Test.YtcobfilbmfokoaaGreatDoorCore1
import Derived.Test.YtcobfilbmfokoaaGreatDoorCards
import Derived.Test.YtcobfilbmfokoaaGreatDoorTie
import Derived.ProofKit
import Derived.OpenShut
import Derived.LaidMore
import Derived.Lay
import Derived.LaidSub
import Derived.LaidHandle
import Derived.SevenTiedAt
import Derived.Stop.Joined
set_option linter.all false
set_option linter.unusedVariables false
set_option linter.unusedSimpArgs false
namespace Go.Proofs.YtcobfilbmfokoaaGreatDoor
open Go Go.Fen
set_option linter.unusedSimpArgs false
set_option linter.unusedVariables false
attribute [local irreducible] RunX WP ACall AnyP OpA ProtL
set_option maxRecDepth 8000
theorem repeat_sp (n : Nat) : Lib.repeatL [32] n = sp n := by
  induction n with
  | zero => rfl
  | succ n ih => rw [Lib.repeatL, ih]; rfl
theorem cCutX0 (w0 : World) (S : List Blk) (s : List UInt8) (hs : s.length ≤ 10000000) (R : AOut → List Blk → Prop) (h : ∀ b, R (.ret (.tup [.str (s.takeWhile (fun b => b != 32)), .str ((s.dropWhile (fun b => b != 32)).drop 1), .bool b])) S) : ACall Tryz.prog w0 39 [.str s, .str [32]] S R := by
  have hi := fun S' => cIndex w0 S' s
  have htd := List.takeWhile_append_dropWhile (p := fun b => b != 32) (l := s)
  rw [idx_eq] at hi
  by_cases hd : s.dropWhile (fun b => b != 32) = []
  · rw [if_pos hd] at hi
    rw [hd, List.append_nil] at htd
    rw [htd, hd] at h
    have h : R (.ret (.tup [.str s, .str [], .bool false])) S := h false
    clear htd hd hs
    refine enter Tryz.func39 rfl (by decide +kernel) (by rw [Tryz.ntmps39]; simp) (by rw [Tryz.ntmps39]; decide) (fun hO => ?_); rw [Tryz.ntmps39]
    repeat' first | apply x_seq | apply x_skip | apply x_block | apply x_exit | apply x_ret | apply x_ops_nil | apply p_blk | apply p_exit_it | apply p_exit_hit | apply p_ret_it | apply p_ret_blk | apply p_panic_it | apply p_panic_blk | apply p_end | (apply p_exit_miss; (· rfl)) | (apply x_region; simp only [List.toList_toArray]) | (apply x_step0; (· rfl); (· simp only [go_sem, *]; try rfl); (· rfl); simp only [putA]) | (apply x_callA []; (· simp only [go_sem, *]; try rfl); (· rfl); (· simp only [go_sem, *]; try rfl); (· rfl); (iterate 2 (· simp only [go_sem, *]; try rfl)); (first | apply hi); simp only [afterCall, putA]) | (apply x_panic; (· simp only [go_sem, *]; try rfl); (· rfl); (· simp only [go_sem, *]; try rfl)) | (apply x_step; (iterate 2 (· simp only [go_sem, *]; try rfl)); (· rfl); simp only [putA]) | (apply x_unwanted; (· simp only [go_sem, *]; try rfl); (· rfl); simp only [putA]) | (apply x_condT; (· simp only [go_sem, *]; try rfl)) | (apply x_condF; (· simp only [go_sem, *]; try rfl)) | (apply x_guardS; (· rfl); (fail_if_success (focus (show _ = some true; (· simp only [go_sem, *]; try rfl)))); (· simp only [go_sem, *]; try rfl); all_goals (intro hb; try simp only [Bool.not_eq_true', Bool.not_eq_false'] at hb)) | (apply x_condS; (· simp only [go_sem, *]; try rfl); all_goals (intro hb; try simp only [Bool.not_eq_true', Bool.not_eq_false'] at hb)) | fail
    (apply f_ret; iterate 7 (· simp only [go_sem, *, Tryz.results39]; try rfl))
    exact h
  · rw [if_neg hd] at hi
    obtain ⟨W, hW⟩ : ∃ W, s.takeWhile (fun b => b != 32) = W := ⟨_, rfl⟩
    obtain ⟨D, hD⟩ : ∃ D, s.dropWhile (fun b => b != 32) = D := ⟨_, rfl⟩
    rw [hW] at hi h htd
    rw [hD] at hd htd h
    have hdl : 0 < D.length := List.length_pos_iff.2 hd
    have hsl : s.length = W.length + D.length := by rw [← htd]; simp
    have d1 : decide ((0 : Int) ≤ (W.length : Int)) = true := by simp
    have hw : IntKind.i64.wrap ((W.length : Int) + ((1 : Nat) : Int)) = ((W.length + 1 : Nat) : Int) := by rw [IntWalk.i64_in _ (by omega)]; rfl
    have b1 : (W.length : Int) ≤ (s.length : Int) := by omega
    have b2 : ((W.length + 1 : Nat) : Int) ≤ (s.length : Int) := by omega
    have htk : List.take W.length s = W := by rw [← htd]; simp
    have hdk : List.drop (W.length + 1) s = D.drop 1 := by rw [← htd, ← List.drop_drop]; simp
    have hts : List.take s.length s = s := List.take_length
    generalize hE : D.drop 1 = E at h hdk
    clear hD hW hd htd hsl hdl hs hE
    refine enter Tryz.func39 rfl (by decide +kernel) (by rw [Tryz.ntmps39]; simp) (by rw [Tryz.ntmps39]; decide) (fun hO => ?_); rw [Tryz.ntmps39]
    repeat' first | apply x_seq | apply x_skip | apply x_block | apply x_exit | apply x_ret | apply x_ops_nil | apply p_blk | apply p_exit_it | apply p_exit_hit | apply p_ret_it | apply p_ret_blk | apply p_panic_it | apply p_panic_blk | apply p_end | (apply p_exit_miss; (· rfl)) | (apply x_region; simp only [List.toList_toArray]) | (apply x_step0; (· rfl); (· simp only [go_sem, *]; try rfl); (· rfl); simp only [putA]) | (apply x_callA []; (· simp only [go_sem, *]; try rfl); (· rfl); (· simp only [go_sem, *]; try rfl); (· rfl); (iterate 2 (· simp only [go_sem, *]; try rfl)); (first | apply hi); simp only [afterCall, putA]) | (apply x_panic; (· simp only [go_sem, *]; try rfl); (· rfl); (· simp only [go_sem, *]; try rfl)) | (apply x_step; (iterate 2 (· simp only [go_sem, *]; try rfl)); (· rfl); simp only [putA]) | (apply x_unwanted; (· simp only [go_sem, *]; try rfl); (· rfl); simp only [putA]) | (apply x_condT; (· simp only [go_sem, *]; try rfl)) | (apply x_condF; (· simp only [go_sem, *]; try rfl)) | (apply x_guardS; (· rfl); (fail_if_success (focus (show _ = some true; (· simp only [go_sem, *]; try rfl)))); (· simp only [go_sem, *]; try rfl); all_goals (intro hb; try simp only [Bool.not_eq_true', Bool.not_eq_false'] at hb)) | (apply x_condS; (· simp only [go_sem, *]; try rfl); all_goals (intro hb; try simp only [Bool.not_eq_true', Bool.not_eq_false'] at hb)) | (apply d_draw; (· exact mixed); (· simp only [List.size_toArray, List.length_cons, List.length_nil, Nat.reduceAdd]; try rfl)) | (apply d_done; (· decide +kernel)) | (apply a_0; (repeat (apply a_s; (· decide +kernel))); first | (apply a_take; (· decide +kernel); (· first | exact qds_FPost | exact qds_RPost | exact qds_YB | assumption); (· rfl); (iterate 3 (· simp only [go_sem, *]; try rfl)); (· rfl); (· simp only [go_sem, *]; try rfl); simp only [putA]) | (apply a_unw; (· decide +kernel); (· first | exact qds_FPost | exact qds_RPost | exact qds_YB | assumption); (· rfl); (iterate 2 (· simp only [go_sem, *]; try rfl)); (· rfl); simp only [putA])) | (apply a_0; (repeat (apply a_o; (· decide +kernel))); apply a_one; (· decide +kernel)) | (apply o_step; (iterate 3 (· simp only [go_sem, *]; try rfl)); (· rfl); simp only [putA]) | (apply o_unw; (iterate 2 (· simp only [go_sem, *]; try rfl)); (· rfl); simp only [putA]) | apply pr_nil | apply pr_same | apply pr_go | apply pl_nil | apply pl_none | (apply pl_skip; (· decide +kernel)) | (apply pl_one; (· simp only [go_sem, *]; try rfl)) | (apply o_call []; (iterate 2 (· simp only [go_sem, *]; try rfl)); (· rfl); (· simp only [go_sem, *]; try rfl); (· rfl); (iterate 2 (· simp only [go_sem, *]; try rfl)); (first | apply hi); simp only [afterOp, putA]) | fail
    all_goals (apply f_ret; iterate 7 (· simp only [go_sem, *, Tryz.results39]; try rfl))
    all_goals exact h _
theorem cCutX (w0 : World) (S : List Blk) (s : List UInt8) (hs : s.length ≤ 10000000) (R : AOut → List Blk → Prop) (h : ∀ b, R (.ret (.tup [.str (s.takeWhile (fun b => b != 32)), .str ((s.dropWhile (fun b => b != 32)).drop 1), .bool b])) S) : ACall Tryz.prog w0 18 [.str s, .str [32]] S R := by
  have hi := fun S' => cCutX0 w0 S' s hs
  generalize s.takeWhile (fun b => b != 32) = W at h hi
  generalize (s.dropWhile (fun b => b != 32)).drop 1 = D at h hi
  clear hs
  refine enter Tryz.func18 rfl (by decide +kernel) (by rw [Tryz.ntmps18]; simp) (by rw [Tryz.ntmps18]; decide) (fun hO => ?_); rw [Tryz.ntmps18]
  repeat' first | apply x_seq | apply x_skip | apply x_block | apply x_exit | apply x_ret | apply x_ops_nil | apply p_blk | apply p_exit_it | apply p_exit_hit | apply p_ret_it | apply p_ret_blk | apply p_panic_it | apply p_panic_blk | apply p_end | (apply p_exit_miss; (· rfl)) | (apply x_region; simp only [List.toList_toArray]) | (apply x_step0; (· rfl); (· simp only [go_sem, *]; try rfl); (· rfl); simp only [putA]) | (apply x_callA []; (· simp only [go_sem, *]; try rfl); (· rfl); (· simp only [go_sem, *]; try rfl); (· rfl); (iterate 2 (· simp only [go_sem, *]; try rfl)); (first | apply hi); simp only [afterCall, putA]) | (apply x_panic; (· simp only [go_sem, *]; try rfl); (· rfl); (· simp only [go_sem, *]; try rfl)) | (apply x_step; (iterate 2 (· simp only [go_sem, *]; try rfl)); (· rfl); simp only [putA]) | (apply x_unwanted; (· simp only [go_sem, *]; try rfl); (· rfl); simp only [putA]) | (apply x_condT; (· simp only [go_sem, *]; try rfl)) | (apply x_condF; (· simp only [go_sem, *]; try rfl)) | (apply x_guardS; (· rfl); (fail_if_success (focus (show _ = some true; (· simp only [go_sem, *]; try rfl)))); (· simp only [go_sem, *]; try rfl); all_goals (intro hb; try simp only [Bool.not_eq_true', Bool.not_eq_false'] at hb)) | (apply x_condS; (· simp only [go_sem, *]; try rfl); all_goals (intro hb; try simp only [Bool.not_eq_true', Bool.not_eq_false'] at hb)) | fail
  intro b
  repeat' first | apply x_seq | apply x_skip | apply x_block | apply x_exit | apply x_ret | apply x_ops_nil | apply p_blk | apply p_exit_it | apply p_exit_hit | apply p_ret_it | apply p_ret_blk | apply p_panic_it | apply p_panic_blk | apply p_end | (apply p_exit_miss; (· rfl)) | (apply x_region; simp only [List.toList_toArray]) | (apply x_step0; (· rfl); (· simp only [go_sem, *]; try rfl); (· rfl); simp only [putA]) | (apply x_panic; (· simp only [go_sem, *]; try rfl); (· rfl); (· simp only [go_sem, *]; try rfl)) | (apply x_step; (iterate 2 (· simp only [go_sem, *]; try rfl)); (· rfl); simp only [putA]) | (apply x_unwanted; (· simp only [go_sem, *]; try rfl); (· rfl); simp only [putA]) | (apply x_condT; (· simp only [go_sem, *]; try rfl)) | (apply x_condF; (· simp only [go_sem, *]; try rfl)) | (apply x_guardS; (· rfl); (fail_if_success (focus (show _ = some true; (· simp only [go_sem, *]; try rfl)))); (· simp only [go_sem, *]; try rfl); all_goals (intro hb; try simp only [Bool.not_eq_true', Bool.not_eq_false'] at hb)) | (apply x_condS; (· simp only [go_sem, *]; try rfl); all_goals (intro hb; try simp only [Bool.not_eq_true', Bool.not_eq_false'] at hb)) | fail
  (apply f_ret; iterate 7 (· simp only [go_sem, *, Tryz.results18]; try rfl))
  exact h b
theorem parts_kw {c : Cm} (h : checkC c = true) : ∃ kw l, partsC c = kw :: l ∧ ∀ b ∈ kw, b ≠ 32 := by
  unfold checkC at h
  cases hf : fmOf c.kind with
  | none => rw [hf] at h; cases h
  | some f =>
    have hg := List.all_eq_true.1 (show (formsL.all fun e => e.2.kw.all fun b => decide (b ≠ 32)) = true by decide +kernel) _ (lookup_mem hf)
    refine ⟨f.kw, _, by unfold partsC; rw [hf], fun b hb => ?_⟩
    simpa using List.all_eq_true.1 hg b hb
theorem cut_parts {c : Cm} (h : checkC c = true) (b : Nat) (hD : ((printC c).dropWhile (fun b => b != 32)).drop 1 ≠ []) :
    (printC c).takeWhile (fun b => b != 32) ++ [32] ++ sp b ++ ((printC c).dropWhile (fun b => b != 32)).drop 1 = spreadC b (partsC c) := by
  obtain ⟨kw, l, he, hk⟩ := parts_kw h
  unfold printC at hD ⊢
  rw [he] at hD ⊢
  match l, hD with
  | [], hD =>
    have e := take_all (w := kw) (s := []) hk (fun b r h => by cases h)
    rw [List.append_nil] at e
    simp only [joinC] at hD
    rw [e.2] at hD
    exact absurd rfl hD
  | q :: r, _ =>
    have e := take_all (w := kw) (s := 32 :: joinC (q :: r)) hk (fun b r h => by cases h; rfl)
    simp only [joinC, spreadC]
    rw [e.1, e.2]
    simp [sp, List.replicate_succ]
theorem spaces1 {c : Cm} (h : checkC c = true) (a k : Nat) : parseC (sp a ++ printC c ++ sp k) = (c, 0) := by
  have := read_spaces h a 0 k
  rw [spread_zero] at this
  unfold parseC
  rw [List.append_assoc, show printC c = joinC (partsC c) from rfl, this]
  simp [h]
theorem spaces2 {c : Cm} (h : checkC c = true) (a b k : Nat) (hD : ((printC c).dropWhile (fun b => b != 32)).drop 1 ≠ []) :
    parseC (sp a ++ (printC c).takeWhile (fun b => b != 32) ++ [32] ++ sp b ++ ((printC c).dropWhile (fun b => b != 32)).drop 1 ++ sp k) = (c, 0) := by
  have := read_spaces h a b k
  rw [← cut_parts h b hD] at this
  unfold parseC
  rw [show sp a ++ (printC c).takeWhile (fun b => b != 32) ++ [32] ++ sp b ++ ((printC c).dropWhile (fun b => b != 32)).drop 1 ++ sp k = sp a ++ ((printC c).takeWhile (fun b => b != 32) ++ [32] ++ sp b ++ ((printC c).dropWhile (fun b => b != 32)).drop 1 ++ sp k) by simp [List.append_assoc], this]
  simp [h]
theorem more1 {c : Cm} (h : checkC c = true) : parseC (printC c ++ [32, 120]) = (zeroC, 6) := by
  unfold parseC
  rw [read_more h]
set_option maxHeartbeats 1000000 in
theorem blank (w0 : World) (S : List Blk) (p0 p1 p2 : Nat) (i : Int) (p : Nat) (hi : (i = 0 ∧ p = p0) ∨ (i = 1 ∧ p = p1) ∨ (i = 2 ∧ p = p2)) (R : AOut → List Blk → Prop) (h : R (.ret (.str (sp (p % 5)))) S) :
    ACall Tryz.prog w0 16 [.int .i64 i, .pro [.int .u8 p0, .int .u8 p1, .int .u8 p2]] S R := by
  have ht : (p : Int).tmod 5 = ((p % 5 : Nat) : Int) := tmN p 5
  have hlt : p % 5 < 5 := Nat.mod_lt _ (by decide)
  generalize p % 5 = n at ht hlt h
  have hr := fun S' => repeatS w0 S' [32] n (by omega) (by simp; omega)
  rw [repeat_sp] at hr
  have hw : IntKind.i64.wrap (n : Int) = (n : Int) := IntWalk.i64_in _ (by omega)
  clear hlt
  rcases hi with ⟨rfl, rfl⟩ | ⟨rfl, rfl⟩ | ⟨rfl, rfl⟩
  all_goals
    refine enter Tryz.func16 rfl (by decide +kernel) (by rw [Tryz.ntmps16]; simp) (by rw [Tryz.ntmps16]; decide) (fun hO => ?_); rw [Tryz.ntmps16]
    repeat' first | apply x_seq | apply x_skip | apply x_block | apply x_exit | apply x_ret | apply x_ops_nil | apply p_blk | apply p_exit_it | apply p_exit_hit | apply p_ret_it | apply p_ret_blk | apply p_panic_it | apply p_panic_blk | apply p_end | (apply p_exit_miss; (· rfl)) | (apply x_region; simp only [List.toList_toArray]) | (apply x_step0; (· rfl); (· simp only [go_sem, *]; try rfl); (· rfl); simp only [putA]) | (apply x_callA []; (· simp only [go_sem, *]; try rfl); (· rfl); (· simp only [go_sem, *]; try rfl); (· rfl); (iterate 2 (· simp only [go_sem, *]; try rfl)); (first | apply hr); simp only [afterCall, putA]) | (apply x_panic; (· simp only [go_sem, *]; try rfl); (· rfl); (· simp only [go_sem, *]; try rfl)) | (apply x_step; (iterate 2 (· simp only [go_sem, *]; try rfl)); (· rfl); simp only [putA]) | (apply x_unwanted; (· simp only [go_sem, *]; try rfl); (· rfl); simp only [putA]) | (apply x_condT; (· simp only [go_sem, *]; try rfl)) | (apply x_condF; (· simp only [go_sem, *]; try rfl)) | (apply x_guardS; (· rfl); (fail_if_success (focus (show _ = some true; (· simp only [go_sem, *]; try rfl)))); (· simp only [go_sem, *]; try rfl); all_goals (intro hb; try simp only [Bool.not_eq_true', Bool.not_eq_false'] at hb)) | (apply x_condS; (· simp only [go_sem, *]; try rfl); all_goals (intro hb; try simp only [Bool.not_eq_true', Bool.not_eq_false'] at hb)) | fail
    (apply f_ret; iterate 7 (· simp only [go_sem, *, Tryz.results16]; try rfl))
    exact h
end Go.Proofs.YtcobfilbmfokoaaGreatDoor
namespace Go.Proofs.YtcobfilbmfokoaaGreatDoor
open Go Go.Fen
set_option linter.unusedSimpArgs false
set_option linter.unusedVariables false
attribute [local irreducible] RunX WP ACall AnyP OpA ProtL
set_option maxRecDepth 8000
set_option maxHeartbeats 40000000 in
theorem spacesLaw (w0 : World) (hT : Tab w0) (hPU : PU16 w0) (hE : ErrT w0) (S : List Blk) (dk dn dm : Nat) (dt : List UInt8) (p0 p1 p2 : Nat) (R : AOut → List Blk → Prop) (h : R (.ret (.bool true)) S) :
    ACall Tryz.prog w0 6 [draftV dk dn dm dt, .agg [.int .u8 p0, .int .u8 p1, .int .u8 p2]] S R := by
  have hwo := works w0 hT hPU hE
  have t1 := fun S' => rDraft w0 S' dk dn dm dt
  obtain ⟨ha, hal⟩ := draftC_ok dk dn dm dt
  generalize draftC dk dn dm dt = a at t1 ha hal
  have hpa := print_len ha
  have h3 : printP a = (printC a, 0) := by unfold printP; rw [if_pos ha]
  have t3 : ∀ S' (R : AOut → List Blk → Prop), R (.ret (.tup [.str (printC a), .int .i64 0])) S' → ACall Tryz.prog w0 9 [a.av] S' R := fun S' R h => cPrint w0 hT S' a (by omega) R (by rw [h3]; exact h)
  have t4 := fun S' => cCutX w0 S' (printC a) (by omega)
  have hs1 := spaces1 ha (p0 % 5) (p2 % 5)
  have hs2 := spaces2 ha (p0 % 5) (p1 % 5) (p2 % 5)
  have hmo := more1 ha
  have htd := List.takeWhile_append_dropWhile (p := fun b => b != 32) (l := printC a)
  obtain ⟨s, hs⟩ : ∃ s, printC a = s := ⟨_, rfl⟩
  rw [hs] at t3 t4 hs1 hs2 hmo hpa htd
  have hWl : (s.takeWhile (fun b => b != 32)).length ≤ s.length := by have := congrArg List.length htd; rw [List.length_append] at this; omega
  have hDl : ((s.dropWhile (fun b => b != 32)).drop 1).length ≤ s.length := by have := congrArg List.length htd; rw [List.length_append] at this; rw [List.length_drop]; omega
  generalize s.takeWhile (fun b => b != 32) = W at t4 hs2 hWl
  generalize (s.dropWhile (fun b => b != 32)).drop 1 = D at t4 hs2 hDl
  have b0 := fun S' => blank w0 S' p0 p1 p2 0 p0 (.inl ⟨rfl, rfl⟩)
  have b1 := fun S' => blank w0 S' p0 p1 p2 1 p1 (.inr (.inl ⟨rfl, rfl⟩))
  have b2 := fun S' => blank w0 S' p0 p1 p2 2 p2 (.inr (.inr ⟨rfl, rfl⟩))
  have l0 : (sp (p0 % 5)).length ≤ 4 := by unfold sp; simp; omega
  have l1 : (sp (p1 % 5)).length ≤ 4 := by unfold sp; simp; omega
  have l2 : (sp (p2 % 5)).length ≤ 4 := by unfold sp; simp; omega
  generalize sp (p0 % 5) = x0 at b0 hs1 hs2 l0
  generalize sp (p1 % 5) = x1 at b1 hs2 l1
  generalize sp (p2 % 5) = x2 at b2 hs1 hs2 l2
  obtain ⟨ak, an, am, at'⟩ := a
  simp only at hal hpa
  have hq1 : (x0 ++ s ++ x2).length ≤ 10000000 := by simp; omega
  have hq2 : (x0 ++ W ++ [32] ++ x1 ++ D ++ x2).length ≤ 10000000 := by simp; omega
  have hq3 : (s ++ [32, 120]).length ≤ 10000000 := by simp; omega
  have t5 : ∀ S' (R : AOut → List Blk → Prop), R (.ret (.bool true)) S' → ACall Tryz.prog w0 14 [.str (x0 ++ s ++ x2), .agg [.int .i64 ak, .int .i64 an, .int .i64 am, .str at']] S' R := fun S' R h => parses w0 hT hPU hE S' ak an am at' _ ⟨hs1, hq1⟩ R h
  have t6 : D ≠ [] → ∀ S' (R : AOut → List Blk → Prop), R (.ret (.bool true)) S' → ACall Tryz.prog w0 14 [.str (x0 ++ W ++ [32] ++ x1 ++ D ++ x2), .agg [.int .i64 ak, .int .i64 an, .int .i64 am, .str at']] S' R := fun hD S' R h => parses w0 hT hPU hE S' ak an am at' _ ⟨hs2 hD, hq2⟩ R h
  have t7 : ∀ S' (R : AOut → List Blk → Prop), R (.ret (.bool true)) S' → ACall Tryz.prog w0 19 [.str (s ++ [32, 120]), .int .i64 6] S' R := fun S' R h => refused w0 hT hPU hE S' _ 6 ⟨hmo, hq3⟩ R h
  have g1 : x0.length + s.length ≤ 9223372036854775807 := by omega
  have g2 : (x0 ++ s).length + x2.length ≤ 9223372036854775807 := by simp; omega
  have g3 : s.length + 2 ≤ 9223372036854775807 := by omega
  have g4 : x0.length + W.length ≤ 9223372036854775807 := by omega
  have g5 : (x0 ++ W).length + 1 ≤ 9223372036854775807 := by simp; omega
  have g6 : (x0 ++ W ++ [32]).length + x1.length ≤ 9223372036854775807 := by simp; omega
  have g7 : (x0 ++ W ++ [32] ++ x1).length + D.length ≤ 9223372036854775807 := by simp; omega
  have g8 : (x0 ++ W ++ [32] ++ x1 ++ D).length + x2.length ≤ 9223372036854775807 := by simp; omega
  clear ha hal hpa h3 hs hs1 hs2 hmo htd hWl hDl l0 l1 l2 hq1 hq2 hq3 hT hPU hE
  unfold Cm.av at t1 t3
  simp only at t1 t3
  unfold draftV at t1 ⊢
  replace hwo := Lib.hid hwo
  replace t1 := Lib.hid t1
  replace t3 := Lib.hid t3
  replace t4 := Lib.hid t4
  replace t5 := Lib.hid t5
  replace t6 := Lib.hid t6
  replace t7 := Lib.hid t7
  replace b0 := Lib.hid b0
  replace b1 := Lib.hid b1
  replace b2 := Lib.hid b2
  refine enter Tryz.func6 rfl (by decide +kernel) (by rw [Tryz.ntmps6]; simp) (by rw [Tryz.ntmps6]; decide) (fun hO => ?_); rw [Tryz.ntmps6]
  repeat' ((fail_if_success (apply x_stop 12 rfl)); first | apply x_seq | apply x_skip | apply x_block | apply x_exit | apply x_ret | apply x_ops_nil | apply p_blk | apply p_exit_it | apply p_exit_hit | apply p_ret_it | apply p_ret_blk | apply p_panic_it | apply p_panic_blk | apply p_end | (apply p_exit_miss; (· rfl)) | (apply x_region; simp only [List.toList_toArray]) | (apply x_step0; (· rfl); (· simp only [go_sem, *]; try rfl); (· rfl); simp only [putA]) | (apply x_panic; (· simp only [go_sem, *]; try rfl); (· rfl); (· simp only [go_sem, *]; try rfl)) | (apply x_step; (iterate 2 (· simp only [go_sem, *]; try rfl)); (· rfl); simp only [putA]) | (apply x_unwanted; (· simp only [go_sem, *]; try rfl); (· rfl); simp only [putA]) | (apply x_condT; (· simp only [go_sem, *]; try rfl)) | (apply x_condF; (· simp only [go_sem, *]; try rfl)) | (apply x_guardS; (· rfl); (fail_if_success (focus (show _ = some true; (· simp only [go_sem, *]; try rfl)))); (· simp only [go_sem, *]; try rfl); all_goals (intro hb; try simp only [Bool.not_eq_true', Bool.not_eq_false'] at hb)) | (apply x_condS; (· simp only [go_sem, *]; try rfl); all_goals (intro hb; try simp only [Bool.not_eq_true', Bool.not_eq_false'] at hb)) | fail)
  refine x_frz (t := 3) (a := S.length + 1) (o := 0) (by (simp only [go_sem, *]; try rfl)) (by (simp only [go_sem, *]; try rfl)) ?_
  try simp only [go_sem, *]
  repeat' first | apply x_seq | apply x_skip | apply x_block | apply x_exit | apply x_ret | apply x_ops_nil | apply p_blk | apply p_exit_it | apply p_exit_hit | apply p_ret_it | apply p_ret_blk | apply p_panic_it | apply p_panic_blk | apply p_end | (apply p_exit_miss; (· rfl)) | (apply x_region; simp only [List.toList_toArray]) | (apply x_step0; (· rfl); (· simp only [go_sem, *]; try rfl); (· rfl); simp only [putA]) | (apply x_callA []; (· simp only [go_sem, *]; try rfl); (· rfl); (· simp only [go_sem, *]; try rfl); (· rfl); (iterate 2 (· simp only [go_sem, *]; try rfl)); (first | apply hwo.out | apply t1.out | apply t3.out | apply t4.out); simp only [afterCall, putA]) | (apply x_panic; (· simp only [go_sem, *]; try rfl); (· rfl); (· simp only [go_sem, *]; try rfl)) | (apply x_step; (iterate 2 (· simp only [go_sem, *]; try rfl)); (· rfl); simp only [putA]) | (apply x_unwanted; (· simp only [go_sem, *]; try rfl); (· rfl); simp only [putA]) | (apply x_condT; (· simp only [go_sem, *]; try rfl)) | (apply x_condF; (· simp only [go_sem, *]; try rfl)) | (apply x_guardS; (· rfl); (fail_if_success (focus (show _ = some true; (· simp only [go_sem, *]; try rfl)))); (· simp only [go_sem, *]; try rfl); all_goals (intro hb; try simp only [Bool.not_eq_true', Bool.not_eq_false'] at hb)) | (apply x_condS; (· simp only [go_sem, *]; try rfl); all_goals (intro hb; try simp only [Bool.not_eq_true', Bool.not_eq_false'] at hb)) | fail
  intro bb
  by_cases hD : D = []
  · subst hD
    repeat' first | apply x_seq | apply x_skip | apply x_block | apply x_exit | apply x_ret | apply x_ops_nil | apply p_blk | apply p_exit_it | apply p_exit_hit | apply p_ret_it | apply p_ret_blk | apply p_panic_it | apply p_panic_blk | apply p_end | (apply p_exit_miss; (· rfl)) | (apply x_region; simp only [List.toList_toArray]) | (apply x_step0; (· rfl); (· simp only [go_sem, *]; try rfl); (· rfl); simp only [putA]) | (apply x_callA []; (· simp only [go_sem, *]; try rfl); (· rfl); (· simp only [go_sem, *]; try rfl); (· rfl); (iterate 2 (· simp only [go_sem, *]; try rfl)); (first | apply t5.out | apply t7.out | apply b0.out | apply b1.out | apply b2.out); simp only [afterCall, putA]) | (apply x_panic; (· simp only [go_sem, *]; try rfl); (· rfl); (· simp only [go_sem, *]; try rfl)) | (apply x_step; (iterate 2 (· simp only [go_sem, *]; try rfl)); (· rfl); simp only [putA]) | (apply x_unwanted; (· simp only [go_sem, *]; try rfl); (· rfl); simp only [putA]) | (apply x_condT; (· simp only [go_sem, *]; try rfl)) | (apply x_condF; (· simp only [go_sem, *]; try rfl)) | (apply x_guardS; (· rfl); (fail_if_success (focus (show _ = some true; (· simp only [go_sem, *]; try rfl)))); (· simp only [go_sem, *]; try rfl); all_goals (intro hb; try simp only [Bool.not_eq_true', Bool.not_eq_false'] at hb)) | (apply x_condS; (· simp only [go_sem, *]; try rfl); all_goals (intro hb; try simp only [Bool.not_eq_true', Bool.not_eq_false'] at hb)) | (apply d_draw; (· exact mixed); (· simp only [List.size_toArray, List.length_cons, List.length_nil, Nat.reduceAdd]; try rfl)) | (apply d_done; (· decide +kernel)) | (apply a_0; (repeat (apply a_s; (· decide +kernel))); first | (apply a_take; (· decide +kernel); (· first | exact qds_FPost | exact qds_RPost | exact qds_YB | assumption); (· rfl); (iterate 3 (· simp only [go_sem, *]; try rfl)); (· rfl); (· simp only [go_sem, *]; try rfl); simp only [putA]) | (apply a_unw; (· decide +kernel); (· first | exact qds_FPost | exact qds_RPost | exact qds_YB | assumption); (· rfl); (iterate 2 (· simp only [go_sem, *]; try rfl)); (· rfl); simp only [putA])) | (apply a_0; (repeat (apply a_o; (· decide +kernel))); apply a_one; (· decide +kernel)) | (apply o_step; (iterate 3 (· simp only [go_sem, *]; try rfl)); (· rfl); simp only [putA]) | (apply o_unw; (iterate 2 (· simp only [go_sem, *]; try rfl)); (· rfl); simp only [putA]) | apply pr_nil | apply pr_same | apply pr_go | apply pl_nil | apply pl_none | (apply pl_skip; (· decide +kernel)) | (apply pl_one; (· simp only [go_sem, *]; try rfl)) | (apply o_call []; (iterate 2 (· simp only [go_sem, *]; try rfl)); (· rfl); (· simp only [go_sem, *]; try rfl); (· rfl); (iterate 2 (· simp only [go_sem, *]; try rfl)); (first | apply t5.out | apply t7.out | apply b0.out | apply b1.out | apply b2.out); simp only [afterOp, putA]) | fail
    (apply f_ret; iterate 7 (· simp only [go_sem, *, Tryz.results6]; try rfl))
    exact h
  · have d0 : (D == []) = false := by rw [beq_eq_false_iff_ne]; exact hD
    have t6 := Lib.hid (t6.out hD)
    clear hD
    repeat' first | apply x_seq | apply x_skip | apply x_block | apply x_exit | apply x_ret | apply x_ops_nil | apply p_blk | apply p_exit_it | apply p_exit_hit | apply p_ret_it | apply p_ret_blk | apply p_panic_it | apply p_panic_blk | apply p_end | (apply p_exit_miss; (· rfl)) | (apply x_region; simp only [List.toList_toArray]) | (apply x_step0; (· rfl); (· simp only [go_sem, *]; try rfl); (· rfl); simp only [putA]) | (apply x_callA []; (· simp only [go_sem, *]; try rfl); (· rfl); (· simp only [go_sem, *]; try rfl); (· rfl); (iterate 2 (· simp only [go_sem, *]; try rfl)); (first | apply t6.out | apply t7.out | apply b0.out | apply b1.out | apply b2.out); simp only [afterCall, putA]) | (apply x_panic; (· simp only [go_sem, *]; try rfl); (· rfl); (· simp only [go_sem, *]; try rfl)) | (apply x_step; (iterate 2 (· simp only [go_sem, *]; try rfl)); (· rfl); simp only [putA]) | (apply x_unwanted; (· simp only [go_sem, *]; try rfl); (· rfl); simp only [putA]) | (apply x_condT; (· simp only [go_sem, *]; try rfl)) | (apply x_condF; (· simp only [go_sem, *]; try rfl)) | (apply x_guardS; (· rfl); (fail_if_success (focus (show _ = some true; (· simp only [go_sem, *]; try rfl)))); (· simp only [go_sem, *]; try rfl); all_goals (intro hb; try simp only [Bool.not_eq_true', Bool.not_eq_false'] at hb)) | (apply x_condS; (· simp only [go_sem, *]; try rfl); all_goals (intro hb; try simp only [Bool.not_eq_true', Bool.not_eq_false'] at hb)) | (apply d_draw; (· exact mixed); (· simp only [List.size_toArray, List.length_cons, List.length_nil, Nat.reduceAdd]; try rfl)) | (apply d_done; (· decide +kernel)) | (apply a_0; (repeat (apply a_s; (· decide +kernel))); first | (apply a_take; (· decide +kernel); (· first | exact qds_FPost | exact qds_RPost | exact qds_YB | assumption); (· rfl); (iterate 3 (· simp only [go_sem, *]; try rfl)); (· rfl); (· simp only [go_sem, *]; try rfl); simp only [putA]) | (apply a_unw; (· decide +kernel); (· first | exact qds_FPost | exact qds_RPost | exact qds_YB | assumption); (· rfl); (iterate 2 (· simp only [go_sem, *]; try rfl)); (· rfl); simp only [putA])) | (apply a_0; (repeat (apply a_o; (· decide +kernel))); apply a_one; (· decide +kernel)) | (apply o_step; (iterate 3 (· simp only [go_sem, *]; try rfl)); (· rfl); simp only [putA]) | (apply o_unw; (iterate 2 (· simp only [go_sem, *]; try rfl)); (· rfl); simp only [putA]) | apply pr_nil | apply pr_same | apply pr_go | apply pl_nil | apply pl_none | (apply pl_skip; (· decide +kernel)) | (apply pl_one; (· simp only [go_sem, *]; try rfl)) | (apply o_call []; (iterate 2 (· simp only [go_sem, *]; try rfl)); (· rfl); (· simp only [go_sem, *]; try rfl); (· rfl); (iterate 2 (· simp only [go_sem, *]; try rfl)); (first | apply t6.out | apply t7.out | apply b0.out | apply b1.out | apply b2.out); simp only [afterOp, putA]) | fail
    (apply f_ret; iterate 7 (· simp only [go_sem, *, Tryz.results6]; try rfl))
    exact h
end Go.Proofs.YtcobfilbmfokoaaGreatDoor
namespace Go.Proofs.YtcobfilbmfokoaaGreatDoor
open Go Go.Fen
set_option linter.unusedSimpArgs false
set_option linter.unusedVariables false
attribute [local irreducible] RunX WP ACall AnyP OpA ProtL
set_option maxRecDepth 8000
open Go.ChangeShapes Go.WideShapes Go.ChangeAt Go.RowKit
theorem own : ownKnob Tryz.prog.godebug = none := by kernel_rfl
theorem laid_mem {P : Program} {W : World} {nm : String} {d : DataW Unit} : ∀ {l : List (String × DataW Unit)} {ps : List MemPlace}, DataW.LaidVars P W l ps → (nm, d) ∈ l →
    ∃ g t cs fuel p, P.globalNamed nm = some g ∧ (P.globals[g]?).map (·.type) = some t ∧ W.var? P nm = some cs ∧ DataW.trod (fun _ => ()) P W 0 (fun _ => true) false fuel t cs.toList = some (d, p) := by
  intro l
  induction l with
  | nil => intro ps _ h; cases h
  | cons x l ih =>
    intro ps h hm
    obtain ⟨nm', d'⟩ := x
    obtain ⟨g, t, cs, fuel, p, q, h1, h2, h3, h4, h5, _⟩ := h
    rcases List.mem_cons.1 hm with e | hm
    · cases e; exact ⟨g, t, cs, fuel, p, h1, h2, h3, h4⟩
    · exact ih h5 hm
def plainLaid : List (String × DataW Unit) := [("math/bits.deBruijn32tab", Rows.laid_math_bits_deBruijn32tab), ("math/bits.deBruijn64tab", Rows.laid_math_bits_deBruijn64tab), ("internal/strconv.uint64pow10", Rows.laid_internal_strconv_uint64pow10), ("unicode/utf8.acceptRanges", Rows.laid_unicode_utf8_acceptRanges), ("strconv.ErrRange", Rows.laid_strconv_ErrRange), ("strconv.ErrSyntax", Rows.laid_strconv_ErrSyntax), ("unicode/utf8.first", Rows.laid_unicode_utf8_first)]
def seatLaid : List (String × DataW Unit) := [("math/bits.deBruijn32tab", Rows.laid_math_bits_deBruijn32tab), ("math/bits.deBruijn64tab", Rows.laid_math_bits_deBruijn64tab), ("internal/strconv.uint64pow10", Rows.laid_internal_strconv_uint64pow10), ("unicode/utf8.acceptRanges", Rows.laid_unicode_utf8_acceptRanges), ("errors.errorType", Rows.laid_errors_errorType), ("strconv.ErrRange", Rows.laid_strconv_ErrRange), ("strconv.ErrSyntax", Rows.laid_strconv_ErrSyntax), ("unicode/utf8.first", Rows.laid_unicode_utf8_first)]
theorem laid_plain : (seatLaid.filter fun x => x.2.handleName?.isNone) = plainLaid := by kernel_rfl
theorem laid_handle : (seatLaid.filter fun x => x.2.handleName?.isSome) = [("errors.errorType", Rows.laid_errors_errorType)] := by kernel_rfl
theorem gPow : Tryz.prog.globalNamed "internal/strconv.uint64pow10" = some 2 := by kernel_rfl
theorem gSyn : Tryz.prog.globalNamed "strconv.ErrSyntax" = some 5 := by kernel_rfl
theorem tab_of {W : World} (h : laidMetH Tryz.prog seatLaid W) : Tab W := by
  have h := (laidMetH_iff.1 h).1
  rw [laid_plain] at h
  obtain ⟨ps, hl, _⟩ := h
  obtain ⟨g, t, cs, fuel, p, h1, h2, h3, h4⟩ := laid_mem (nm := "internal/strconv.uint64pow10") (d := Rows.laid_internal_strconv_uint64pow10) hl (by simp [plainLaid])
  obtain rfl := Option.some.inj (gPow.symm.trans h1)
  obtain rfl := Option.some.inj ((show (Tryz.prog.globals[2]?).map (·.type) = some 158 by kernel_rfl).symm.trans h2)
  have h5 := Lib.cells_of_tab (k := .u64) (zs := Lib.pow10Tab) (un_158) (un_107) (by kernel_rfl) (by kernel_rfl) h4
  unfold Tab Lib.TabIs
  rw [h3, ← h5]
theorem syn_of {W : World} (h : laidMetH Tryz.prog seatLaid W) : Syn W := by
  have h := (laidMetH_iff.1 h).1
  rw [laid_plain] at h
  obtain ⟨ps, hl, _⟩ := h
  obtain ⟨g, t, cs, fuel, p, h1, h2, h3, h4⟩ := laid_mem (nm := "strconv.ErrSyntax") (d := Rows.laid_strconv_ErrSyntax) hl (by simp [plainLaid])
  obtain rfl := Option.some.inj (gSyn.symm.trans h1)
  obtain rfl := Option.some.inj ((show (Tryz.prog.globals[5]?).map (·.type) = some 67 by kernel_rfl).symm.trans h2)
  cases fuel with
  | zero => simp [DataW.trod] at h4
  | succ fuel =>
  simp only [DataW.trod, un_67] at h4
  have hc := World.var?_cell gSyn h3 0
  match hcs : cs.toList, h4 with
  | [.nilIface], _ => exact ⟨.nilIface, by rw [hc, ← Array.getElem?_toList, hcs]; rfl, .inl rfl⟩
  | [.iface u v], _ => exact ⟨.iface u v, by rw [hc, ← Array.getElem?_toList, hcs]; rfl, .inr ⟨u, v, rfl⟩⟩
theorem gErr : Tryz.prog.globalNamed "errors.errorType" = some 0 := by kernel_rfl
theorem gRt : (Tryz.prog.cutTypes.find? (·.1 == "internal/reflectlite.rtype")).map (·.2) = some 119 := by kernel_rfl
theorem gSize : Tryz.prog.types.size = 230 := by kernel_rfl
theorem gRow : ((List.range 230).filter fun t => Tryz.prog.rowNamed t [101, 114, 114, 111, 114]) = [67] := by kernel_rfl
theorem errT_of {W : World} (h : laidMetH Tryz.prog seatLaid W) : ErrT W := by
  have h := (laidMetH_iff.1 h).2
  rw [laid_handle] at h
  obtain ⟨name, u, ty, e1, e2, e3, e4, e5⟩ := h _ (List.mem_singleton.2 rfl)
  have en : name = [101, 114, 114, 111, 114] := (Option.some.inj e1).symm
  subst en
  obtain rfl := Option.some.inj (gRt.symm.trans e2)
  have hm : ty ∈ (List.range 230).filter fun t => Tryz.prog.rowNamed t [101, 114, 114, 111, 114] := List.mem_filter.2 ⟨List.mem_range.2 (by rw [← gSize]; exact e3), e4⟩
  rw [gRow] at hm
  obtain rfl := List.mem_singleton.1 hm
  have hh : typeHandle Tryz.prog 67 = .pointer (some ⟨9, 67, none⟩) := by kernel_rfl
  rw [hh] at e5
  unfold ErrT
  simpa using World.var?_cell gErr e5 0
noncomputable def handWorld (os : Os) : World :=
  let w0 := World.holding Tryz.prog os ⟨#[], #[], []⟩
  { w0 with heap := w0.heap.modify 0 fun
      | .cells _ t frozen => .cells #[.iface 119 (.agg #[.pointer (some ⟨9, 67, none⟩)])] t frozen
      | o => o }
noncomputable def seatWorld (os : Os) : World := (handWorld os).layVars Tryz.prog plainLaid
theorem seatWorld_os (os : Os) : (seatWorld os).os = os := World.layVars_os _ _ _
theorem seatWorld_met (os : Os) (args : Array Value) : laidMetH Tryz.prog seatLaid ((seatWorld os).forCall (fun _ _ => 0) ⟨#[], args, []⟩).memory := by
  refine laidMetH_of_parts ?_ (by rw [laid_handle]; kernel_rfl)
  rw [laid_plain]
  have e1 : (plainLaid.filter fun x => (plainLaid.map (·.1)).contains x.1) = plainLaid := List.filter_eq_self.2 fun x hx => List.contains_iff_mem.2 (List.mem_map.2 ⟨x, hx, rfl⟩)
  have e2 : (plainLaid.filter fun x => !(plainLaid.map (·.1)).contains x.1) = [] := List.filter_eq_nil_iff.2 fun x hx => by rw [List.contains_iff_mem.2 (List.mem_map.2 ⟨x, hx, rfl⟩)]; simp
  have h : laidMet Tryz.prog plainLaid (seatWorld os) := laidMet_layVars (w0 := handWorld os) (plainLaid.map (·.1)) [] (by rw [e1]; rfl) (by rw [e1]; kernel_rfl) (by rw [e1]; kernel_rfl) (by rw [e2]; exact LaidIn.none)
  exact h.of_heap (by simp [World.memory, World.forCall, Input.heap])
theorem wf_nat {k : IntKind} {n : Int} (h : (Lit.int k n).wf = true) (hk : k.min = 0) : ((n.toNat : Nat) : Int) = n := by
  simp only [Lit.wf, Bool.and_eq_true, decide_eq_true_eq, hk] at h
  omega
theorem laidOut : laidOutB Tryz.prog = true := by kernel_rfl
end Go.Proofs.YtcobfilbmfokoaaGreatDoor
namespace Go.Proofs.YtcobfilbmfokoaaGreatDoor
open Go Go.Fen
set_option linter.unusedSimpArgs false
set_option linter.unusedVariables false
attribute [local irreducible] RunX WP ACall AnyP OpA ProtL
set_option maxRecDepth 8000
def draftSk : Sk := .cons (.int .u8) (.cons (.int .u8) (.cons (.int .u8) (.cons .str .nil)))
theorem open_draft (y : List AV) (h : draftSk.has y) : ∃ k n m : Nat, ∃ t : List UInt8, draftSk.mk y = draftV k n m t := by
  obtain ⟨_, _, rfl, ⟨a, rfl, ha⟩, _, _, rfl, ⟨b, rfl, hb⟩, _, _, rfl, ⟨c, rfl, hc⟩, _, _, rfl, ⟨s, rfl, _⟩, rfl⟩ := h
  exact ⟨a.toNat, b.toNat, c.toNat, s, by simp [Sk.mk, draftSk, Sk.isAgg, draftV, wf_nat ha rfl, wf_nat hb rfl, wf_nat hc rfl]⟩
def arr3Sk : Sk := .cons (.int .u8) (.cons (.int .u8) (.cons (.int .u8) .nil))
theorem open_arr3 (y : List AV) (h : arr3Sk.has y) : ∃ a b c : Nat, arr3Sk.mk y = .agg [.int .u8 a, .int .u8 b, .int .u8 c] := by
  obtain ⟨_, _, rfl, ⟨a, rfl, ha⟩, _, _, rfl, ⟨b, rfl, hb⟩, _, _, rfl, ⟨c, rfl, hc⟩, rfl⟩ := h
  exact ⟨a.toNat, b.toNat, c.toNat, by simp [Sk.mk, arr3Sk, Sk.isAgg, wf_nat ha rfl, wf_nat hb rfl, wf_nat hc rfl]⟩
namespace CommandSpaces
theorem contract (H : Type) (enc : TypeId × Value → H) (W : World) (base : Nat) (args : Array Value) (ds gs : List (DataW H)) (before : List MemPlace)
    (hval : ∀ (j : Nat) t v, Tryz.f6.params[j]? = some t → args[j]? = some v → Value.okWide Tryz.prog W .any base t v)
    (hW : DataW.Whole enc Tryz.prog Tryz.f6.params.toList Rows.commandSpacesSpec.vars false W args.toList ds gs before) (hL : laidMetH Tryz.prog seatLaid W) :
    Calls Tryz.prog 6 args W fun e W' => ∃ v, e = .returned v ∧ Rows.commandSpacesSpec.post enc Tryz.prog Tryz.f6 false true false false W args v W' := by
  refine law_close (n := 20) (tb := 4) [draftSk, arr3Sk] laidOut ?_ (by rw [Tryz.params6]; kernel_rfl) (by kernel_rfl) un_4 rfl ?_ hW hval ?_
  · rw [Tryz.params6]
    have : ([25, 42].all fun t => Tryz.prog.readableRec t && decide (t < Tryz.prog.types.size)) = true := by kernel_rfl
    intro t ht
    simpa using List.all_eq_true.1 this t (by simpa using ht)
  · intro h
    rw [Tryz.params6] at h
    match ds, h with
    | [d1, d2], _ => rfl
  · intro avs ha
    obtain ⟨y1, r1, h1, e1, ha1⟩ := ArgsH.cons' ha
    obtain ⟨y2, r2, h2, e2, ha2⟩ := ArgsH.cons' ha1
    have e3 := ArgsH.nil' ha2
    rw [e1, e2, e3]
    obtain ⟨k, n, m, t, hd⟩ := open_draft y1 h1
    obtain ⟨p0, p1, p2, hd2⟩ := open_arr3 y2 h2
    rw [hd, hd2]
    exact spacesLaw W (tab_of hL) (parseUint W (syn_of hL)) (errT_of hL) [] k n m t p0 p1 p2 _ rfl
def wit : Array Value := #[.agg #[.int .u8 0, .int .u8 0, .int .u8 0, .string ⟨#[]⟩], .agg #[.int .u8 0, .int .u8 0, .int .u8 0]]
set_option maxRecDepth 100000 in
theorem lifted (os : Os) (started : os.Started) (H : Type) (enc : TypeId × Value → H) :
    ReturnsInHanded {} Tryz.checked os 6 .any (fun w args => (Rows.commandSpacesSpec.pre enc Tryz.prog Tryz.f6 Rows.commandSpacesRow.domain false w args ∧ laidMetH Tryz.prog seatLaid w) ∧ sizedMet enc Tryz.prog Tryz.f6 (OpenSpec.ofChange Rows.commandSpacesSpec) false w args)
      (Rows.commandSpacesSpec.post enc Tryz.prog Tryz.f6 false true false false) := by
  refine returnsInHanded_of_change_and (C := Tryz.checked) (X := fun w _ => laidMetH Tryz.prog seatLaid w) (fun _ _ _ hh h => h.of_heap hh) own started (by kernel_rfl) Tryz.func6
    (ChangeSpec.witness_shaped (enc := enc) (C := Tryz.checked) (os := os) (X := fun w _ => laidMetH Tryz.prog seatLaid w) false (seatWorld os) wit 8 (seatWorld_os _)
      (World.shaped_of_ZipB (by kernel_rfl) (by kernel_rfl)) (by kernel_rfl) (by kernel_rfl) (by kernel_rfl)
      (seatWorld_met os _)) ?_
  intro W base args ds gs before hval hW _ _ hL _
  exact contract H enc W base args ds gs before hval hW hL
theorem said : Rows.CommandSpacesSaid :=
  OpenClaim.holds_of_wide 6 Tryz.f6 rfl rfl rfl rfl rfl rfl rfl ⟨rfl, rfl, rfl, rfl, rfl⟩ rfl rfl rfl rfl rfl (by kernel_rfl) Tryz.func6 (by kernel_rfl)
    (of_decide_eq_true (by kernel_rfl)) (by unfold Func.isWrapper; first | (rw [if_pos (by decide +kernel)]; kernel_rfl) | (rw [if_neg (by decide +kernel)]; exact ⟨rfl, rfl⟩))
    (fun os started H enc _ => lifted os started H enc)
theorem plainF (f : FuncId) (fn : Func) (hf : Tryz.pinned.checked.prog.funcNamed "fenestra/fenestralaw40.CommandSpaces" = some f) (hfn : Tryz.pinned.checked.prog.funcs[f]? = some fn) :
    true = Tryz.pinned.checked.prog.looks [] ∧ ∀ (j : Nat) t, fn.params[j]? = some t → Tryz.pinned.checked.prog.wantsStandIn t = false := by
  obtain rfl : f = 6 := Option.some.inj ((show Tryz.prog.funcNamed "fenestra/fenestralaw40.CommandSpaces" = some 6 by kernel_rfl).symm.trans hf) |>.symm
  obtain rfl : fn = Tryz.f6 := (Option.some.inj (Tryz.func6.symm.trans hfn)).symm
  refine ⟨by kernel_rfl, fun j t ht => ?_⟩
  rw [Tryz.params6] at ht
  have hm : t ∈ [25, 42] := by simpa using Array.mem_of_getElem? ht
  have hall : ([25, 42].all fun u => !Tryz.prog.wantsStandIn u) = true := by kernel_rfl
  exact (show Tryz.prog.wantsStandIn t = false by simpa using List.all_eq_true.1 hall t hm)
theorem card : Rows.CommandSpacesCardSaid :=
  Claim7.holds_tied_plain_at .later [] _ _ _ _ said (fun _ h => by cases h) (by kernel_rfl) (fun _ h => by cases h) commandSpaces_row_tie rfl ⟨rfl, rfl⟩ (by kernel_rfl) rfl plainF (by kernel_rfl)
end CommandSpaces
end Go.Proofs.YtcobfilbmfokoaaGreatDoor
