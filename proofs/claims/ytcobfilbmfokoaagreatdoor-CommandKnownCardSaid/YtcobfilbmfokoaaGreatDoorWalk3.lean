/- YtcobfilbmfokoaaGreatDoorWalk3. Texts of the proof of a law about recordings: a layer of abstract values above the worlds, the types, the walks of the functions that the law reaches, the law and its card. Own work of an AI agent. -/
import Derived.Test.YtcobfilbmfokoaaGreatDoorWalk2
import Derived.WalkKit
import Derived.LaidEql
import Derived.Stop.Asserts
import Derived.RowKitTokens
import Derived.Test.YtcobfilbmfokoaaGreatDoorCore1
import Derived.Test.YtcobfilbmfokoaaGreatDoorCards
import Derived.Test.YtcobfilbmfokoaaGreatDoorTie
import Derived.ProofKit
import Derived.OpenShut
import Derived.LaidMore
import Derived.Lay
import Derived.LaidSub
import Derived.LaidHandle
import Derived.SevenTiedAt
import Derived.Stop.Joined
import Derived.Shelf.Strings.Repeat
import Derived.Test.YtcobfilbmfokoaaGreatDoorShelf
set_option linter.all false
set_option linter.unusedVariables false
set_option linter.unusedSimpArgs false
namespace Go.Proofs.YtcobfilbmfokoaaGreatDoor
open Go Go.Fen
set_option linter.unusedSimpArgs false
set_option linter.unusedVariables false
attribute [local irreducible] RunX WP ACall AnyP OpA ProtL
set_option maxRecDepth 8000
theorem form_small : (formsL.all fun e => decide (e.2.words.length ≤ 100)) = true := by decide +kernel
theorem cArgs (w0 : World) (hPU : PU16 w0) (S : List Blk) (a b : Nat) (hab : a ≠ b) (ha : a < S.length) (hb : b < S.length) (t s : List UInt8) (ht : t.length ≤ 10000000) (hs : s <:+ t) (k : Int) (f : Fm) (hm : (k, f) ∈ formsL) (R : AOut → List Blk → Prop)
    (h1 : ∀ c, argsC k f s = some c → R (.ret (.tup [])) ((S.set b (cmB c)).set a (.cells [.str t, .int .i64 (scP t [] : Nat), .inil])))
    (h0 : argsC k f s = none → ∀ q r c, r <:+ t → R (.ret (.tup [])) ((S.set b (cmB c)).set a (.cells [.str t, .int .i64 (scP t r : Nat), errV q]))) :
    ACall Tryz.prog w0 45 [.own a 0, f.av, .own b 0] ((S.set b (cmB ⟨k, 0, 0, []⟩)).set a (.cells [.str t, .int .i64 (scP t s : Nat), .inil])) R := by
  have hg := List.all_eq_true.1 forms_good _ hm
  simp only [goodF, Bool.and_eq_true, decide_eq_true_eq, Bool.or_eq_true, Bool.not_eq_true', List.all_eq_true, List.mem_range] at hg
  obtain ⟨_, _, _, g4, g5, g6, g7⟩ := hg
  by_cases hw : f.words = []
  · refine cArgs0 w0 hPU S a b hab ha hb t s ht hs k f hw (fun hi => ?_) (fun hn => ?_) R h1 h0
    · rcases g5 with g | g
      · rw [g] at hi; cases hi
      · exact g.2.2.2
    · rcases g6 with g | g
      · rw [g] at hn; cases hn
      · exact g.2.2
  · have hsm := List.all_eq_true.1 form_small _ hm
    simp only [decide_eq_true_eq] at hsm
    refine cArgs1 w0 S a b hab ha hb t s ht hs k f hw hsm (fun i w hi => ?_) ?_ ?_ R h1 h0
    · have hil := (List.getElem?_eq_some_iff.1 hi).1
      have := (g4 i hil).2
      rw [List.getD_eq_getElem?_getD, hi] at this
      exact this
    · cases hh : f.index with
      | false => rfl
      | true =>
        rcases g5 with g | g
        · rw [hh] at g; cases g
        · exact absurd g.1 hw
    · cases hh : f.text with
      | false => rfl
      | true =>
        rcases g7 with g | g
        · rw [hh] at g; cases g
        · exact absurd g hw
theorem key_of {k : Int} {f : Fm} (hm : (k, f) ∈ formsL) : keyC f.kw = some (k, f) := by
  have hg := List.all_eq_true.1 forms_good _ hm
  simp only [goodF, Bool.and_eq_true, decide_eq_true_eq] at hg
  exact hg.2.1
theorem key_none {w : List UInt8} (h : ∀ e ∈ formsL, e.2.kw ≠ w) : keyC w = none := by
  unfold keyC
  rw [List.find?_eq_none]
  intro e he
  simp only [beq_iff_eq]
  exact h e he
theorem forms_memA {e : AV × AV} (h : e ∈ formsAV) : ∃ k f, (k, f) ∈ formsL ∧ e = (.int .i64 k, f.av) := by
  unfold formsAV at h
  obtain ⟨x, hx, rfl⟩ := List.mem_map.1 h
  exact ⟨x.1, x.2, hx, rfl⟩
theorem forms_lt {es : List (AV × AV)} (h : ∀ x ∈ es, x ∈ formsAV) (n : Nat) : ltP n es = true := by
  rw [ltP_iff]
  intro x hx
  obtain ⟨k, f, _, rfl⟩ := forms_memA (h x hx)
  refine ⟨rfl, ?_⟩
  simp [Fm.av, AV.lt, ltL, Str.ltL]
set_option maxHeartbeats 16000000 in
theorem cParse0 (w0 : World) (hPU : PU16 w0) (S : List Blk) (s : List UInt8) (hs : s.length ≤ 10000000) (R : AOut → List Blk → Prop)
    (h1 : ∀ c, readC s = some c → R (.ret (.tup [c.av, .inil])) S) (h0 : readC s = none → ∀ c q, R (.ret (.tup [Cm.av c, errV q])) S) :
    ACall Tryz.prog w0 31 [.str s] S R := by
  have hwo : ∀ R : AOut → List Blk → Prop, R (.ret (.str (wordC s).1)) (S ++ [(Blk.cells [.int .i64 0, .int .i64 0, .int .i64 0, .str []]), (Blk.cells [.str s, .int .i64 (scP s (wordC s).2 : Nat), .inil])]) → ACall Tryz.prog w0 44 [.own (S.length + 1) 0] (S ++ [(Blk.cells [.int .i64 0, .int .i64 0, .int .i64 0, .str []]), Blk.cells [.str s, .int .i64 0, .inil]]) R := fun R hR => by
    refine cWord w0 _ (S.length + 1) s s .inil hs (.inl rfl) ?_ (List.suffix_refl s) R ?_
    · rw [List.getElem?_append_right (by omega)]
      simp [scP]
    · rw [List.set_append_right _ _ (by omega)]
      simpa using hR
  have hsw := (suf_word (List.suffix_refl s)).1
  have hfo := forms w0
  have hle := forms_lt (es := formsAV) fun x hx => hx
  have hrd : ∀ k f, (k, f) ∈ formsL → f.kw = (wordC s).1 → readC s = argsC k f (wordC s).2 := fun k f hm hk => by
    unfold readC
    rw [← hk, key_of hm]
  have hrn : (∀ e ∈ formsL, e.2.kw ≠ (wordC s).1) → readC s = none := fun h => by
    unfold readC
    rw [key_none h]
  obtain ⟨W, hW⟩ : ∃ W, (wordC s).1 = W := ⟨_, rfl⟩
  rw [hW] at hwo hrd hrn
  have Hrd := Lib.hid hrd
  have Hrn := Lib.hid hrn
  have H1 := Lib.hid h1
  have H0 := Lib.hid h0
  have Hsw := Lib.hid hsw
  clear hrd hrn h1 h0 hW hsw
  refine enter Tryz.func31 rfl (by decide +kernel) (by rw [Tryz.ntmps31]; simp) (by rw [Tryz.ntmps31]; decide) (fun hO => ?_); rw [Tryz.ntmps31]
  repeat' first
    | apply x_seq | apply x_skip | apply x_block | apply x_exit | apply x_ret | apply x_ops_nil | apply p_blk | apply p_exit_it | apply p_exit_hit | apply p_ret_it | apply p_ret_blk | apply p_panic_it | apply p_panic_blk | apply p_end
    | (apply p_exit_miss; (focus rfl))
    | (apply x_region; simp only [List.toList_toArray])
    | (apply x_step0; (focus rfl); (focus (simp only [go_sem, *]; (try rfl); done)); (focus rfl); simp only [putA])
    | (apply x_callA []; (focus (simp only [go_sem, *]; (try rfl); done)); (focus rfl); (focus (simp only [go_sem, *]; (try rfl); done)); (focus rfl); (iterate 2 (focus (simp only [go_sem, *]; (try rfl); done))); (first | (apply hwo) | (apply hfo)); simp only [afterCall, putA])
    | (apply x_panic; (focus (simp only [go_sem, *]; (try rfl); done)); (focus rfl); (focus (simp only [go_sem, *]; (try rfl); done)))
    | (apply x_step; (iterate 2 (focus (simp only [go_sem, *]; (try rfl); done))); (focus rfl); simp only [putA])
    | (apply x_unwanted; (focus (simp only [go_sem, *]; (try rfl); done)); (focus rfl); simp only [putA])
    | (apply x_condT; (focus (simp only [go_sem, *]; (try rfl); done)))
    | (apply x_condF; (focus (simp only [go_sem, *]; (try rfl); done)))
    | (apply x_guardS; (focus rfl); (fail_if_success (focus (show _ = some true; (focus (simp only [go_sem, *]; (try rfl); done))))); (focus (simp only [go_sem, *]; (try rfl); done)); all_goals (intro hb; try simp only [Bool.not_eq_true', Bool.not_eq_false'] at hb))
    | (apply x_condS; (focus (simp only [go_sem, *]; (try rfl); done)); all_goals (intro hb; try simp only [Bool.not_eq_true', Bool.not_eq_false'] at hb))
  refine x_ind (fun (p : Option (AV × AV) × List (AV × AV) × List (AV × AV)) env S' => formsAV.Perm (p.2.1 ++ p.2.2) ∧ (∀ k f, (AV.int .i64 k, Fm.av f) ∈ p.2.1 → f.kw ≠ W) ∧ (∀ n, (Blk.mit p.1 []).ltB n = true) ∧ env 1000000 = .dfr [] ∧ env 2 = .own S.length 0 ∧ env 3 = .inil ∧ env 4 = .own (S.length + 1) 0 ∧ env 5 = .str W ∧ env 14 = .own (S.length + 2) 0 ∧
    S' = S ++ [(Blk.cells [.int .i64 0, .int .i64 0, .int .i64 0, .str []]), (Blk.cells [.str s, .int .i64 (scP s (wordC s).2 : Nat), .inil]), .mit p.1 p.2.2]) (fun p => p.2.2.length) (none, [], formsAV) ?_ ?_
  · exact ⟨.refl _, (fun k f h => by cases h), (fun _ => rfl), by (simp only [go_sem, *]; try rfl), by (simp only [go_sem, *]; try rfl), by (simp only [go_sem, *]; try rfl), by (simp only [go_sem, *]; try rfl), by (simp only [go_sem, *]; try rfl), by (simp only [go_sem, *]; try rfl), rfl⟩
  · rintro ⟨cur, vis, rest⟩ env S' ⟨hp, hv, hcur, e0, e2, e3, e4, e5, e14, rfl⟩ IH
    have HI := Lib.hid IH
    have HP := Lib.hid hp
    have HV := Lib.hid hv
    clear IH hp hv hwo hfo hle
    simp only at hcur
    repeat' first
      | apply x_seq | apply x_skip | apply x_block | apply x_exit | apply x_ret | apply x_ops_nil | apply p_blk | apply p_exit_it | apply p_exit_hit | apply p_ret_it | apply p_ret_blk | apply p_panic_it | apply p_panic_blk | apply p_end
      | (apply p_exit_miss; (focus rfl))
      | (apply x_region; simp only [List.toList_toArray])
      | (apply x_step0; (focus rfl); (focus (simp only [go_sem, *]; (try rfl); done)); (focus rfl); simp only [putA])
      | (apply x_panic; (focus (simp only [go_sem, *]; (try rfl); done)); (focus rfl); (focus (simp only [go_sem, *]; (try rfl); done)))
      | (apply x_step; (iterate 2 (focus (simp only [go_sem, *]; (try rfl); done))); (focus rfl); simp only [putA])
      | (apply x_unwanted; (focus (simp only [go_sem, *]; (try rfl); done)); (focus rfl); simp only [putA])
      | (apply x_condT; (focus (simp only [go_sem, *]; (try rfl); done)))
      | (apply x_condF; (focus (simp only [go_sem, *]; (try rfl); done)))
      | (apply x_guardS; (focus rfl); (fail_if_success (focus (show _ = some true; (focus (simp only [go_sem, *]; (try rfl); done))))); (focus (simp only [go_sem, *]; (try rfl); done)); all_goals (intro hb; try simp only [Bool.not_eq_true', Bool.not_eq_false'] at hb))
      | (apply x_condS; (focus (simp only [go_sem, *]; (try rfl); done)); all_goals (intro hb; try simp only [Bool.not_eq_true', Bool.not_eq_false'] at hb))
    apply x_nextM
    · (simp only [go_sem, *]; try rfl)
    · rfl
    · (simp only [go_sem, *]; try rfl)
    · (simp only [go_sem, *]; try rfl)
    · rfl
    · intro hr
      have hp := HP.out
      rw [hr, List.append_nil] at hp
      have hn := Hrn.out fun e he hk => by
        obtain ⟨k, f⟩ := e
        exact HV.out k f (hp.mem_iff.1 (List.mem_map.2 ⟨(k, f), he, rfl⟩)) hk
      have h := H0.out hn ⟨0, 0, 0, []⟩
      unfold Cm.av at h
      clear hp hn
      subst hr
      have hf : ∀ R : AOut → List Blk → Prop, (∀ q, R (.ret (.tup [])) (S ++ [(Blk.cells [.int .i64 0, .int .i64 0, .int .i64 0, .str []]), (Blk.cells [.str s, .int .i64 (scP s (wordC s).2 : Nat), errV q]), .mit cur []])) → ACall Tryz.prog w0 46 [.own (S.length + 1) 0] (S ++ [(Blk.cells [.int .i64 0, .int .i64 0, .int .i64 0, .str []]), (Blk.cells [.str s, .int .i64 (scP s (wordC s).2 : Nat), .inil]), .mit cur []]) R := fun R hR => by
        refine cFail w0 _ (S.length + 1) s (scP s (wordC s).2 : Nat) .inil (.inl rfl) ?_ R (fun q => ?_)
        · rw [List.getElem?_append_right (by omega)]; simp
        · rw [List.set_append_right _ _ (by omega)]
          simpa using hR q
      simp only [errV] at hf h
      simp only [putA]
      repeat' first
        | apply x_seq | apply x_skip | apply x_block | apply x_exit | apply x_ret | apply x_ops_nil | apply p_blk | apply p_exit_it | apply p_exit_hit | apply p_ret_it | apply p_ret_blk | apply p_panic_it | apply p_panic_blk | apply p_end
        | (apply p_exit_miss; (focus rfl))
        | (apply x_region; simp only [List.toList_toArray])
        | (apply x_step0; (focus rfl); (focus (simp only [go_sem, *]; (try rfl); done)); (focus rfl); simp only [putA])
        | (apply x_callA []; (focus (simp only [go_sem, *]; (try rfl); done)); (focus rfl); (focus (simp only [go_sem, *]; (try rfl); done)); (focus rfl); (iterate 2 (focus (simp only [go_sem, *]; (try rfl); done))); (first | (apply hf)); simp only [afterCall, putA])
        | (apply x_panic; (focus (simp only [go_sem, *]; (try rfl); done)); (focus rfl); (focus (simp only [go_sem, *]; (try rfl); done)))
        | (apply x_step; (iterate 2 (focus (simp only [go_sem, *]; (try rfl); done))); (focus rfl); simp only [putA])
        | (apply x_unwanted; (focus (simp only [go_sem, *]; (try rfl); done)); (focus rfl); simp only [putA])
        | (apply x_condT; (focus (simp only [go_sem, *]; (try rfl); done)))
        | (apply x_condF; (focus (simp only [go_sem, *]; (try rfl); done)))
        | (apply x_guardS; (focus rfl); (fail_if_success (focus (show _ = some true; (focus (simp only [go_sem, *]; (try rfl); done))))); (focus (simp only [go_sem, *]; (try rfl); done)); all_goals (intro hb; try simp only [Bool.not_eq_true', Bool.not_eq_false'] at hb))
        | (apply x_condS; (focus (simp only [go_sem, *]; (try rfl); done)); all_goals (intro hb; try simp only [Bool.not_eq_true', Bool.not_eq_false'] at hb))
        | (apply d_draw; (focus exact mixed); (focus ((simp only [List.size_toArray, List.length_cons, List.length_nil, Nat.reduceAdd]; try rfl); done)))
        | (apply d_done; (focus decide +kernel))
        | ((first | (apply d_take 0; (focus decide +kernel)) | (apply d_take 1; (focus decide +kernel)) | (apply d_take 2; (focus decide +kernel)) | (apply d_take 3; (focus decide +kernel)) | (apply d_take 4; (focus decide +kernel)) | (apply d_take 5; (focus decide +kernel)) | (apply d_take 6; (focus decide +kernel)) | (apply d_take 7; (focus decide +kernel)) | (apply d_take 8; (focus decide +kernel)) | (apply d_take 9; (focus decide +kernel)) | (apply d_take 10; (focus decide +kernel)) | (apply d_take 11; (focus decide +kernel)) | (apply d_take 12; (focus decide +kernel)) | (apply d_take 13; (focus decide +kernel)) | (apply d_take 14; (focus decide +kernel)) | (apply d_take 15; (focus decide +kernel)) | (apply d_take 16; (focus decide +kernel)) | (apply d_take 17; (focus decide +kernel))); (focus (first | exact qds_FPost | exact qds_RPost | exact qds_YB | assumption)); (focus rfl); (iterate 3 (focus (simp only [go_sem, *]; (try rfl); done))); (focus rfl); (focus (simp only [go_sem, *]; (try rfl); done)); simp only [putA])
        | ((first | (apply d_unw 0; (focus decide +kernel)) | (apply d_unw 1; (focus decide +kernel)) | (apply d_unw 2; (focus decide +kernel)) | (apply d_unw 3; (focus decide +kernel)) | (apply d_unw 4; (focus decide +kernel)) | (apply d_unw 5; (focus decide +kernel)) | (apply d_unw 6; (focus decide +kernel)) | (apply d_unw 7; (focus decide +kernel)) | (apply d_unw 8; (focus decide +kernel)) | (apply d_unw 9; (focus decide +kernel)) | (apply d_unw 10; (focus decide +kernel)) | (apply d_unw 11; (focus decide +kernel)) | (apply d_unw 12; (focus decide +kernel)) | (apply d_unw 13; (focus decide +kernel)) | (apply d_unw 14; (focus decide +kernel)) | (apply d_unw 15; (focus decide +kernel)) | (apply d_unw 16; (focus decide +kernel)) | (apply d_unw 17; (focus decide +kernel))); (focus (first | exact qds_FPost | exact qds_RPost | exact qds_YB | assumption)); (focus rfl); (iterate 2 (focus (simp only [go_sem, *]; (try rfl); done))); (focus rfl); simp only [putA])
        | (first | (apply d_one 0; (focus decide +kernel)) | (apply d_one 1; (focus decide +kernel)) | (apply d_one 2; (focus decide +kernel)) | (apply d_one 3; (focus decide +kernel)) | (apply d_one 4; (focus decide +kernel)) | (apply d_one 5; (focus decide +kernel)) | (apply d_one 6; (focus decide +kernel)) | (apply d_one 7; (focus decide +kernel)) | (apply d_one 8; (focus decide +kernel)) | (apply d_one 9; (focus decide +kernel)) | (apply d_one 10; (focus decide +kernel)) | (apply d_one 11; (focus decide +kernel)) | (apply d_one 12; (focus decide +kernel)) | (apply d_one 13; (focus decide +kernel)) | (apply d_one 14; (focus decide +kernel)) | (apply d_one 15; (focus decide +kernel)) | (apply d_one 16; (focus decide +kernel)) | (apply d_one 17; (focus decide +kernel)))
        | (apply o_step; (iterate 3 (focus (simp only [go_sem, *]; (try rfl); done))); (focus rfl); simp only [putA])
        | (apply o_unw; (iterate 2 (focus (simp only [go_sem, *]; (try rfl); done))); (focus rfl); simp only [putA])
        | apply pr_nil | apply pr_same | apply pr_go | apply pl_nil | apply pl_none | (apply pl_skip; (focus decide +kernel)) | (apply pl_one; (focus (simp only [go_sem, *]; (try rfl); done)))
        | (apply o_call []; (iterate 2 (focus (simp only [go_sem, *]; (try rfl); done))); (focus rfl); (focus (simp only [go_sem, *]; (try rfl); done)); (focus rfl); (iterate 2 (focus (simp only [go_sem, *]; (try rfl); done))); (first | (apply hf)); simp only [afterOp, putA])
      intro q
      repeat' first
        | apply x_seq | apply x_skip | apply x_block | apply x_exit | apply x_ret | apply x_ops_nil | apply p_blk | apply p_exit_it | apply p_exit_hit | apply p_ret_it | apply p_ret_blk | apply p_panic_it | apply p_panic_blk | apply p_end
        | (apply p_exit_miss; (focus rfl))
        | (apply x_region; simp only [List.toList_toArray])
        | (apply x_step0; (focus rfl); (focus (simp only [go_sem, *]; (try rfl); done)); (focus rfl); simp only [putA])
        | (apply x_panic; (focus (simp only [go_sem, *]; (try rfl); done)); (focus rfl); (focus (simp only [go_sem, *]; (try rfl); done)))
        | (apply x_step; (iterate 2 (focus (simp only [go_sem, *]; (try rfl); done))); (focus rfl); simp only [putA])
        | (apply x_unwanted; (focus (simp only [go_sem, *]; (try rfl); done)); (focus rfl); simp only [putA])
        | (apply x_condT; (focus (simp only [go_sem, *]; (try rfl); done)))
        | (apply x_condF; (focus (simp only [go_sem, *]; (try rfl); done)))
        | (apply x_guardS; (focus rfl); (fail_if_success (focus (show _ = some true; (focus (simp only [go_sem, *]; (try rfl); done))))); (focus (simp only [go_sem, *]; (try rfl); done)); all_goals (intro hb; try simp only [Bool.not_eq_true', Bool.not_eq_false'] at hb))
        | (apply x_condS; (focus (simp only [go_sem, *]; (try rfl); done)); all_goals (intro hb; try simp only [Bool.not_eq_true', Bool.not_eq_false'] at hb))
        | (apply d_draw; (focus exact mixed); (focus ((simp only [List.size_toArray, List.length_cons, List.length_nil, Nat.reduceAdd]; try rfl); done)))
        | (apply d_done; (focus decide +kernel))
        | ((first | (apply d_take 0; (focus decide +kernel)) | (apply d_take 1; (focus decide +kernel)) | (apply d_take 2; (focus decide +kernel)) | (apply d_take 3; (focus decide +kernel)) | (apply d_take 4; (focus decide +kernel)) | (apply d_take 5; (focus decide +kernel)) | (apply d_take 6; (focus decide +kernel)) | (apply d_take 7; (focus decide +kernel)) | (apply d_take 8; (focus decide +kernel)) | (apply d_take 9; (focus decide +kernel)) | (apply d_take 10; (focus decide +kernel)) | (apply d_take 11; (focus decide +kernel)) | (apply d_take 12; (focus decide +kernel)) | (apply d_take 13; (focus decide +kernel)) | (apply d_take 14; (focus decide +kernel)) | (apply d_take 15; (focus decide +kernel)) | (apply d_take 16; (focus decide +kernel)) | (apply d_take 17; (focus decide +kernel))); (focus (first | exact qds_FPost | exact qds_RPost | exact qds_YB | assumption)); (focus rfl); (iterate 3 (focus (simp only [go_sem, *]; (try rfl); done))); (focus rfl); (focus (simp only [go_sem, *]; (try rfl); done)); simp only [putA])
        | ((first | (apply d_unw 0; (focus decide +kernel)) | (apply d_unw 1; (focus decide +kernel)) | (apply d_unw 2; (focus decide +kernel)) | (apply d_unw 3; (focus decide +kernel)) | (apply d_unw 4; (focus decide +kernel)) | (apply d_unw 5; (focus decide +kernel)) | (apply d_unw 6; (focus decide +kernel)) | (apply d_unw 7; (focus decide +kernel)) | (apply d_unw 8; (focus decide +kernel)) | (apply d_unw 9; (focus decide +kernel)) | (apply d_unw 10; (focus decide +kernel)) | (apply d_unw 11; (focus decide +kernel)) | (apply d_unw 12; (focus decide +kernel)) | (apply d_unw 13; (focus decide +kernel)) | (apply d_unw 14; (focus decide +kernel)) | (apply d_unw 15; (focus decide +kernel)) | (apply d_unw 16; (focus decide +kernel)) | (apply d_unw 17; (focus decide +kernel))); (focus (first | exact qds_FPost | exact qds_RPost | exact qds_YB | assumption)); (focus rfl); (iterate 2 (focus (simp only [go_sem, *]; (try rfl); done))); (focus rfl); simp only [putA])
        | (first | (apply d_one 0; (focus decide +kernel)) | (apply d_one 1; (focus decide +kernel)) | (apply d_one 2; (focus decide +kernel)) | (apply d_one 3; (focus decide +kernel)) | (apply d_one 4; (focus decide +kernel)) | (apply d_one 5; (focus decide +kernel)) | (apply d_one 6; (focus decide +kernel)) | (apply d_one 7; (focus decide +kernel)) | (apply d_one 8; (focus decide +kernel)) | (apply d_one 9; (focus decide +kernel)) | (apply d_one 10; (focus decide +kernel)) | (apply d_one 11; (focus decide +kernel)) | (apply d_one 12; (focus decide +kernel)) | (apply d_one 13; (focus decide +kernel)) | (apply d_one 14; (focus decide +kernel)) | (apply d_one 15; (focus decide +kernel)) | (apply d_one 16; (focus decide +kernel)) | (apply d_one 17; (focus decide +kernel)))
        | (apply o_step; (iterate 3 (focus (simp only [go_sem, *]; (try rfl); done))); (focus rfl); simp only [putA])
        | (apply o_unw; (iterate 2 (focus (simp only [go_sem, *]; (try rfl); done))); (focus rfl); simp only [putA])
        | apply pr_nil | apply pr_same | apply pr_go | apply pl_nil | apply pl_none | (apply pl_skip; (focus decide +kernel)) | (apply pl_one; (focus (simp only [go_sem, *]; (try rfl); done)))
      all_goals (apply f_ret; iterate 7 (focus (simp only [go_sem, *, Tryz.results31]; (try rfl); done)))
      all_goals exact h q
    · intro e rest' hr
      have hp : formsAV.Perm (vis ++ e :: rest') := HP.out.trans (List.Perm.append_left _ hr)
      obtain ⟨k, f, hm, rfl⟩ := forms_memA (hp.mem_iff.2 (List.mem_append_right _ (List.mem_cons_self ..)))
      have HL2 := Lib.hid (forms_lt (es := rest') fun x hx => hp.mem_iff.2 (List.mem_append_right _ (List.mem_cons_of_mem _ hx)))
      have HP2 := Lib.hid hp
      have HR := Lib.hid hr
      have hlr := hr.length_eq
      have Hlr := Lib.hid hlr
      clear hp hr hlr
      have hcl : ∀ n, (Blk.mit (some (.int .i64 k, f.av)) []).ltB n = true := fun n => by simp [Blk.ltB, ltP, Fm.av, AV.lt, ltL, Str.ltL]
      have hlt' := fun n => HL2.out n
      unfold Fm.av
      by_cases hkw : f.kw = W
      · have dk : (f.kw == W) = true := by simpa using hkw
        have hrd := Hrd.out k f hm hkw
        have har : ∀ R : AOut → List Blk → Prop, (∀ c, argsC k f (wordC s).2 = some c → R (.ret (.tup [])) (S ++ [cmB c, (Blk.cells [.str s, .int .i64 (scP s [] : Nat), .inil]), (Blk.mit (some (.int .i64 k, .agg [.str f.kw, .sval false (f.words.map AV.str), .bool f.number, .bool f.index, .bool f.text, .int .i64 f.lo, .int .i64 f.hi, .int .i64 f.mx, .bool f.name])) rest'), (Blk.cells [.str f.kw, .sval false (f.words.map AV.str), .bool f.number, .bool f.index, .bool f.text, .int .i64 f.lo, .int .i64 f.hi, .int .i64 f.mx, .bool f.name])])) → (argsC k f (wordC s).2 = none → ∀ q r c, r <:+ s → R (.ret (.tup [])) (S ++ [cmB c, .cells [.str s, .int .i64 (scP s r : Nat), errV q], (Blk.mit (some (.int .i64 k, .agg [.str f.kw, .sval false (f.words.map AV.str), .bool f.number, .bool f.index, .bool f.text, .int .i64 f.lo, .int .i64 f.hi, .int .i64 f.mx, .bool f.name])) rest'), (Blk.cells [.str f.kw, .sval false (f.words.map AV.str), .bool f.number, .bool f.index, .bool f.text, .int .i64 f.lo, .int .i64 f.hi, .int .i64 f.mx, .bool f.name])])) →
            ACall Tryz.prog w0 45 [.own (S.length + 1) 0, f.av, .own S.length 0] (S ++ [.cells [.int .i64 k, .int .i64 0, .int .i64 0, .str []], (Blk.cells [.str s, .int .i64 (scP s (wordC s).2 : Nat), .inil]), (Blk.mit (some (.int .i64 k, .agg [.str f.kw, .sval false (f.words.map AV.str), .bool f.number, .bool f.index, .bool f.text, .int .i64 f.lo, .int .i64 f.hi, .int .i64 f.mx, .bool f.name])) rest'), (Blk.cells [.str f.kw, .sval false (f.words.map AV.str), .bool f.number, .bool f.index, .bool f.text, .int .i64 f.lo, .int .i64 f.hi, .int .i64 f.mx, .bool f.name])]) R := fun R g1 g0 => by
          have hset : ∀ A B C D A' B', ((S ++ [A, B, C, D]).set S.length A').set (S.length + 1) B' = S ++ [A', B', C, D] := fun A B C D A' B' => by
            rw [List.set_append_right _ _ (by omega), List.set_append_right _ _ (by omega)]; simp
          have := cArgs w0 hPU (S ++ [.cells [.int .i64 k, .int .i64 0, .int .i64 0, .str []], (Blk.cells [.str s, .int .i64 (scP s (wordC s).2 : Nat), .inil]), (Blk.mit (some (.int .i64 k, .agg [.str f.kw, .sval false (f.words.map AV.str), .bool f.number, .bool f.index, .bool f.text, .int .i64 f.lo, .int .i64 f.hi, .int .i64 f.mx, .bool f.name])) rest'), (Blk.cells [.str f.kw, .sval false (f.words.map AV.str), .bool f.number, .bool f.index, .bool f.text, .int .i64 f.lo, .int .i64 f.hi, .int .i64 f.mx, .bool f.name])]) (S.length + 1) S.length (by omega) (by simp) (by simp) s (wordC s).2 hs Hsw.out k f hm R (fun c hc => by rw [hset]; exact g1 c hc) (fun hn q r c hr => by rw [hset]; exact g0 hn q r c hr)
          rw [hset] at this
          exact this
        unfold Fm.av at har
        cases hac : argsC k f (wordC s).2 with
        | some c =>
          have h := H1.out c (hrd.trans hac)
          have har := fun (R : AOut → List Blk → Prop) hh => har R (fun c' hc' => by rw [hac] at hc'; cases hc'; exact hh) (fun hn => by rw [hac] at hn; cases hn)
          unfold cmB at har
          unfold Cm.av at h
          clear hrd hac hkw HI
          simp only [putA]
          repeat' first
            | apply x_seq | apply x_skip | apply x_block | apply x_exit | apply x_ret | apply x_ops_nil | apply p_blk | apply p_exit_it | apply p_exit_hit | apply p_ret_it | apply p_ret_blk | apply p_panic_it | apply p_panic_blk | apply p_end
            | (apply p_exit_miss; (focus rfl))
            | (apply x_region; simp only [List.toList_toArray])
            | (apply x_step0; (focus rfl); (focus (simp only [go_sem, *]; (try rfl); done)); (focus rfl); simp only [putA])
            | (apply x_callA []; (focus (simp only [go_sem, *]; (try rfl); done)); (focus rfl); (focus (simp only [go_sem, *]; (try rfl); done)); (focus rfl); (iterate 2 (focus (simp only [go_sem, *]; (try rfl); done))); (first | (apply har)); simp only [afterCall, putA])
            | (apply x_panic; (focus (simp only [go_sem, *]; (try rfl); done)); (focus rfl); (focus (simp only [go_sem, *]; (try rfl); done)))
            | (apply x_step; (iterate 2 (focus (simp only [go_sem, *]; (try rfl); done))); (focus rfl); simp only [putA])
            | (apply x_unwanted; (focus (simp only [go_sem, *]; (try rfl); done)); (focus rfl); simp only [putA])
            | (apply x_condT; (focus (simp only [go_sem, *]; (try rfl); done)))
            | (apply x_condF; (focus (simp only [go_sem, *]; (try rfl); done)))
            | (apply x_guardS; (focus rfl); (fail_if_success (focus (show _ = some true; (focus (simp only [go_sem, *]; (try rfl); done))))); (focus (simp only [go_sem, *]; (try rfl); done)); all_goals (intro hb; try simp only [Bool.not_eq_true', Bool.not_eq_false'] at hb))
            | (apply x_condS; (focus (simp only [go_sem, *]; (try rfl); done)); all_goals (intro hb; try simp only [Bool.not_eq_true', Bool.not_eq_false'] at hb))
            | (apply d_draw; (focus exact mixed); (focus ((simp only [List.size_toArray, List.length_cons, List.length_nil, Nat.reduceAdd]; try rfl); done)))
            | (apply d_done; (focus decide +kernel))
            | ((first | (apply d_take 0; (focus decide +kernel)) | (apply d_take 1; (focus decide +kernel)) | (apply d_take 2; (focus decide +kernel)) | (apply d_take 3; (focus decide +kernel)) | (apply d_take 4; (focus decide +kernel)) | (apply d_take 5; (focus decide +kernel)) | (apply d_take 6; (focus decide +kernel)) | (apply d_take 7; (focus decide +kernel)) | (apply d_take 8; (focus decide +kernel)) | (apply d_take 9; (focus decide +kernel)) | (apply d_take 10; (focus decide +kernel)) | (apply d_take 11; (focus decide +kernel)) | (apply d_take 12; (focus decide +kernel)) | (apply d_take 13; (focus decide +kernel)) | (apply d_take 14; (focus decide +kernel)) | (apply d_take 15; (focus decide +kernel)) | (apply d_take 16; (focus decide +kernel)) | (apply d_take 17; (focus decide +kernel))); (focus (first | exact qds_FPost | exact qds_RPost | exact qds_YB | assumption)); (focus rfl); (iterate 3 (focus (simp only [go_sem, *]; (try rfl); done))); (focus rfl); (focus (simp only [go_sem, *]; (try rfl); done)); simp only [putA])
            | ((first | (apply d_unw 0; (focus decide +kernel)) | (apply d_unw 1; (focus decide +kernel)) | (apply d_unw 2; (focus decide +kernel)) | (apply d_unw 3; (focus decide +kernel)) | (apply d_unw 4; (focus decide +kernel)) | (apply d_unw 5; (focus decide +kernel)) | (apply d_unw 6; (focus decide +kernel)) | (apply d_unw 7; (focus decide +kernel)) | (apply d_unw 8; (focus decide +kernel)) | (apply d_unw 9; (focus decide +kernel)) | (apply d_unw 10; (focus decide +kernel)) | (apply d_unw 11; (focus decide +kernel)) | (apply d_unw 12; (focus decide +kernel)) | (apply d_unw 13; (focus decide +kernel)) | (apply d_unw 14; (focus decide +kernel)) | (apply d_unw 15; (focus decide +kernel)) | (apply d_unw 16; (focus decide +kernel)) | (apply d_unw 17; (focus decide +kernel))); (focus (first | exact qds_FPost | exact qds_RPost | exact qds_YB | assumption)); (focus rfl); (iterate 2 (focus (simp only [go_sem, *]; (try rfl); done))); (focus rfl); simp only [putA])
            | (first | (apply d_one 0; (focus decide +kernel)) | (apply d_one 1; (focus decide +kernel)) | (apply d_one 2; (focus decide +kernel)) | (apply d_one 3; (focus decide +kernel)) | (apply d_one 4; (focus decide +kernel)) | (apply d_one 5; (focus decide +kernel)) | (apply d_one 6; (focus decide +kernel)) | (apply d_one 7; (focus decide +kernel)) | (apply d_one 8; (focus decide +kernel)) | (apply d_one 9; (focus decide +kernel)) | (apply d_one 10; (focus decide +kernel)) | (apply d_one 11; (focus decide +kernel)) | (apply d_one 12; (focus decide +kernel)) | (apply d_one 13; (focus decide +kernel)) | (apply d_one 14; (focus decide +kernel)) | (apply d_one 15; (focus decide +kernel)) | (apply d_one 16; (focus decide +kernel)) | (apply d_one 17; (focus decide +kernel)))
            | (apply o_step; (iterate 3 (focus (simp only [go_sem, *]; (try rfl); done))); (focus rfl); simp only [putA])
            | (apply o_unw; (iterate 2 (focus (simp only [go_sem, *]; (try rfl); done))); (focus rfl); simp only [putA])
            | apply pr_nil | apply pr_same | apply pr_go | apply pl_nil | apply pl_none | (apply pl_skip; (focus decide +kernel)) | (apply pl_one; (focus (simp only [go_sem, *]; (try rfl); done)))
            | (apply o_call []; (iterate 2 (focus (simp only [go_sem, *]; (try rfl); done))); (focus rfl); (focus (simp only [go_sem, *]; (try rfl); done)); (focus rfl); (iterate 2 (focus (simp only [go_sem, *]; (try rfl); done))); (first | (apply har)); simp only [afterOp, putA])
          all_goals (apply f_ret; iterate 7 (focus (simp only [go_sem, *, Tryz.results31]; (try rfl); done)))
          all_goals exact h
        | none =>
          have h := H0.out (hrd.trans hac)
          have har := fun (R : AOut → List Blk → Prop) hh => har R (fun c' hc' => by rw [hac] at hc'; cases hc') (fun _ => hh)
          unfold cmB at har
          unfold Cm.av at h
          simp only [errV] at har h
          clear hrd hac hkw HI
          simp only [putA]
          repeat' first
            | apply x_seq | apply x_skip | apply x_block | apply x_exit | apply x_ret | apply x_ops_nil | apply p_blk | apply p_exit_it | apply p_exit_hit | apply p_ret_it | apply p_ret_blk | apply p_panic_it | apply p_panic_blk | apply p_end
            | (apply p_exit_miss; (focus rfl))
            | (apply x_region; simp only [List.toList_toArray])
            | (apply x_step0; (focus rfl); (focus (simp only [go_sem, *]; (try rfl); done)); (focus rfl); simp only [putA])
            | (apply x_callA []; (focus (simp only [go_sem, *]; (try rfl); done)); (focus rfl); (focus (simp only [go_sem, *]; (try rfl); done)); (focus rfl); (iterate 2 (focus (simp only [go_sem, *]; (try rfl); done))); (first | (apply har)); simp only [afterCall, putA])
            | (apply x_panic; (focus (simp only [go_sem, *]; (try rfl); done)); (focus rfl); (focus (simp only [go_sem, *]; (try rfl); done)))
            | (apply x_step; (iterate 2 (focus (simp only [go_sem, *]; (try rfl); done))); (focus rfl); simp only [putA])
            | (apply x_unwanted; (focus (simp only [go_sem, *]; (try rfl); done)); (focus rfl); simp only [putA])
            | (apply x_condT; (focus (simp only [go_sem, *]; (try rfl); done)))
            | (apply x_condF; (focus (simp only [go_sem, *]; (try rfl); done)))
            | (apply x_guardS; (focus rfl); (fail_if_success (focus (show _ = some true; (focus (simp only [go_sem, *]; (try rfl); done))))); (focus (simp only [go_sem, *]; (try rfl); done)); all_goals (intro hb; try simp only [Bool.not_eq_true', Bool.not_eq_false'] at hb))
            | (apply x_condS; (focus (simp only [go_sem, *]; (try rfl); done)); all_goals (intro hb; try simp only [Bool.not_eq_true', Bool.not_eq_false'] at hb))
            | (apply d_draw; (focus exact mixed); (focus ((simp only [List.size_toArray, List.length_cons, List.length_nil, Nat.reduceAdd]; try rfl); done)))
            | (apply d_done; (focus decide +kernel))
            | ((first | (apply d_take 0; (focus decide +kernel)) | (apply d_take 1; (focus decide +kernel)) | (apply d_take 2; (focus decide +kernel)) | (apply d_take 3; (focus decide +kernel)) | (apply d_take 4; (focus decide +kernel)) | (apply d_take 5; (focus decide +kernel)) | (apply d_take 6; (focus decide +kernel)) | (apply d_take 7; (focus decide +kernel)) | (apply d_take 8; (focus decide +kernel)) | (apply d_take 9; (focus decide +kernel)) | (apply d_take 10; (focus decide +kernel)) | (apply d_take 11; (focus decide +kernel)) | (apply d_take 12; (focus decide +kernel)) | (apply d_take 13; (focus decide +kernel)) | (apply d_take 14; (focus decide +kernel)) | (apply d_take 15; (focus decide +kernel)) | (apply d_take 16; (focus decide +kernel)) | (apply d_take 17; (focus decide +kernel))); (focus (first | exact qds_FPost | exact qds_RPost | exact qds_YB | assumption)); (focus rfl); (iterate 3 (focus (simp only [go_sem, *]; (try rfl); done))); (focus rfl); (focus (simp only [go_sem, *]; (try rfl); done)); simp only [putA])
            | ((first | (apply d_unw 0; (focus decide +kernel)) | (apply d_unw 1; (focus decide +kernel)) | (apply d_unw 2; (focus decide +kernel)) | (apply d_unw 3; (focus decide +kernel)) | (apply d_unw 4; (focus decide +kernel)) | (apply d_unw 5; (focus decide +kernel)) | (apply d_unw 6; (focus decide +kernel)) | (apply d_unw 7; (focus decide +kernel)) | (apply d_unw 8; (focus decide +kernel)) | (apply d_unw 9; (focus decide +kernel)) | (apply d_unw 10; (focus decide +kernel)) | (apply d_unw 11; (focus decide +kernel)) | (apply d_unw 12; (focus decide +kernel)) | (apply d_unw 13; (focus decide +kernel)) | (apply d_unw 14; (focus decide +kernel)) | (apply d_unw 15; (focus decide +kernel)) | (apply d_unw 16; (focus decide +kernel)) | (apply d_unw 17; (focus decide +kernel))); (focus (first | exact qds_FPost | exact qds_RPost | exact qds_YB | assumption)); (focus rfl); (iterate 2 (focus (simp only [go_sem, *]; (try rfl); done))); (focus rfl); simp only [putA])
            | (first | (apply d_one 0; (focus decide +kernel)) | (apply d_one 1; (focus decide +kernel)) | (apply d_one 2; (focus decide +kernel)) | (apply d_one 3; (focus decide +kernel)) | (apply d_one 4; (focus decide +kernel)) | (apply d_one 5; (focus decide +kernel)) | (apply d_one 6; (focus decide +kernel)) | (apply d_one 7; (focus decide +kernel)) | (apply d_one 8; (focus decide +kernel)) | (apply d_one 9; (focus decide +kernel)) | (apply d_one 10; (focus decide +kernel)) | (apply d_one 11; (focus decide +kernel)) | (apply d_one 12; (focus decide +kernel)) | (apply d_one 13; (focus decide +kernel)) | (apply d_one 14; (focus decide +kernel)) | (apply d_one 15; (focus decide +kernel)) | (apply d_one 16; (focus decide +kernel)) | (apply d_one 17; (focus decide +kernel)))
            | (apply o_step; (iterate 3 (focus (simp only [go_sem, *]; (try rfl); done))); (focus rfl); simp only [putA])
            | (apply o_unw; (iterate 2 (focus (simp only [go_sem, *]; (try rfl); done))); (focus rfl); simp only [putA])
            | apply pr_nil | apply pr_same | apply pr_go | apply pl_nil | apply pl_none | (apply pl_skip; (focus decide +kernel)) | (apply pl_one; (focus (simp only [go_sem, *]; (try rfl); done)))
            | (apply o_call []; (iterate 2 (focus (simp only [go_sem, *]; (try rfl); done))); (focus rfl); (focus (simp only [go_sem, *]; (try rfl); done)); (focus rfl); (iterate 2 (focus (simp only [go_sem, *]; (try rfl); done))); (first | (apply har)); simp only [afterOp, putA])
          intro q r c hrr
          repeat' first
            | apply x_seq | apply x_skip | apply x_block | apply x_exit | apply x_ret | apply x_ops_nil | apply p_blk | apply p_exit_it | apply p_exit_hit | apply p_ret_it | apply p_ret_blk | apply p_panic_it | apply p_panic_blk | apply p_end
            | (apply p_exit_miss; (focus rfl))
            | (apply x_region; simp only [List.toList_toArray])
            | (apply x_step0; (focus rfl); (focus (simp only [go_sem, *]; (try rfl); done)); (focus rfl); simp only [putA])
            | (apply x_panic; (focus (simp only [go_sem, *]; (try rfl); done)); (focus rfl); (focus (simp only [go_sem, *]; (try rfl); done)))
            | (apply x_step; (iterate 2 (focus (simp only [go_sem, *]; (try rfl); done))); (focus rfl); simp only [putA])
            | (apply x_unwanted; (focus (simp only [go_sem, *]; (try rfl); done)); (focus rfl); simp only [putA])
            | (apply x_condT; (focus (simp only [go_sem, *]; (try rfl); done)))
            | (apply x_condF; (focus (simp only [go_sem, *]; (try rfl); done)))
            | (apply x_guardS; (focus rfl); (fail_if_success (focus (show _ = some true; (focus (simp only [go_sem, *]; (try rfl); done))))); (focus (simp only [go_sem, *]; (try rfl); done)); all_goals (intro hb; try simp only [Bool.not_eq_true', Bool.not_eq_false'] at hb))
            | (apply x_condS; (focus (simp only [go_sem, *]; (try rfl); done)); all_goals (intro hb; try simp only [Bool.not_eq_true', Bool.not_eq_false'] at hb))
            | (apply d_draw; (focus exact mixed); (focus ((simp only [List.size_toArray, List.length_cons, List.length_nil, Nat.reduceAdd]; try rfl); done)))
            | (apply d_done; (focus decide +kernel))
            | ((first | (apply d_take 0; (focus decide +kernel)) | (apply d_take 1; (focus decide +kernel)) | (apply d_take 2; (focus decide +kernel)) | (apply d_take 3; (focus decide +kernel)) | (apply d_take 4; (focus decide +kernel)) | (apply d_take 5; (focus decide +kernel)) | (apply d_take 6; (focus decide +kernel)) | (apply d_take 7; (focus decide +kernel)) | (apply d_take 8; (focus decide +kernel)) | (apply d_take 9; (focus decide +kernel)) | (apply d_take 10; (focus decide +kernel)) | (apply d_take 11; (focus decide +kernel)) | (apply d_take 12; (focus decide +kernel)) | (apply d_take 13; (focus decide +kernel)) | (apply d_take 14; (focus decide +kernel)) | (apply d_take 15; (focus decide +kernel)) | (apply d_take 16; (focus decide +kernel)) | (apply d_take 17; (focus decide +kernel))); (focus (first | exact qds_FPost | exact qds_RPost | exact qds_YB | assumption)); (focus rfl); (iterate 3 (focus (simp only [go_sem, *]; (try rfl); done))); (focus rfl); (focus (simp only [go_sem, *]; (try rfl); done)); simp only [putA])
            | ((first | (apply d_unw 0; (focus decide +kernel)) | (apply d_unw 1; (focus decide +kernel)) | (apply d_unw 2; (focus decide +kernel)) | (apply d_unw 3; (focus decide +kernel)) | (apply d_unw 4; (focus decide +kernel)) | (apply d_unw 5; (focus decide +kernel)) | (apply d_unw 6; (focus decide +kernel)) | (apply d_unw 7; (focus decide +kernel)) | (apply d_unw 8; (focus decide +kernel)) | (apply d_unw 9; (focus decide +kernel)) | (apply d_unw 10; (focus decide +kernel)) | (apply d_unw 11; (focus decide +kernel)) | (apply d_unw 12; (focus decide +kernel)) | (apply d_unw 13; (focus decide +kernel)) | (apply d_unw 14; (focus decide +kernel)) | (apply d_unw 15; (focus decide +kernel)) | (apply d_unw 16; (focus decide +kernel)) | (apply d_unw 17; (focus decide +kernel))); (focus (first | exact qds_FPost | exact qds_RPost | exact qds_YB | assumption)); (focus rfl); (iterate 2 (focus (simp only [go_sem, *]; (try rfl); done))); (focus rfl); simp only [putA])
            | (first | (apply d_one 0; (focus decide +kernel)) | (apply d_one 1; (focus decide +kernel)) | (apply d_one 2; (focus decide +kernel)) | (apply d_one 3; (focus decide +kernel)) | (apply d_one 4; (focus decide +kernel)) | (apply d_one 5; (focus decide +kernel)) | (apply d_one 6; (focus decide +kernel)) | (apply d_one 7; (focus decide +kernel)) | (apply d_one 8; (focus decide +kernel)) | (apply d_one 9; (focus decide +kernel)) | (apply d_one 10; (focus decide +kernel)) | (apply d_one 11; (focus decide +kernel)) | (apply d_one 12; (focus decide +kernel)) | (apply d_one 13; (focus decide +kernel)) | (apply d_one 14; (focus decide +kernel)) | (apply d_one 15; (focus decide +kernel)) | (apply d_one 16; (focus decide +kernel)) | (apply d_one 17; (focus decide +kernel)))
            | (apply o_step; (iterate 3 (focus (simp only [go_sem, *]; (try rfl); done))); (focus rfl); simp only [putA])
            | (apply o_unw; (iterate 2 (focus (simp only [go_sem, *]; (try rfl); done))); (focus rfl); simp only [putA])
            | apply pr_nil | apply pr_same | apply pr_go | apply pl_nil | apply pl_none | (apply pl_skip; (focus decide +kernel)) | (apply pl_one; (focus (simp only [go_sem, *]; (try rfl); done)))
          all_goals (apply f_ret; iterate 7 (focus (simp only [go_sem, *, Tryz.results31]; (try rfl); done)))
          all_goals exact h c q
      · have dk : (f.kw == W) = false := by simpa using hkw
        have Hkw := Lib.hid hkw
        clear hkw
        simp only [putA]
        repeat' first
          | apply x_seq | apply x_skip | apply x_block | apply x_exit | apply x_ret | apply x_ops_nil | apply p_blk | apply p_exit_it | apply p_exit_hit | apply p_ret_it | apply p_ret_blk | apply p_panic_it | apply p_panic_blk | apply p_end
          | (apply p_exit_miss; (focus rfl))
          | (apply x_region; simp only [List.toList_toArray])
          | (apply x_step0; (focus rfl); (focus (simp only [go_sem, *]; (try rfl); done)); (focus rfl); simp only [putA])
          | (apply x_panic; (focus (simp only [go_sem, *]; (try rfl); done)); (focus rfl); (focus (simp only [go_sem, *]; (try rfl); done)))
          | (apply x_step; (iterate 2 (focus (simp only [go_sem, *]; (try rfl); done))); (focus rfl); simp only [putA])
          | (apply x_unwanted; (focus (simp only [go_sem, *]; (try rfl); done)); (focus rfl); simp only [putA])
          | (apply x_condT; (focus (simp only [go_sem, *]; (try rfl); done)))
          | (apply x_condF; (focus (simp only [go_sem, *]; (try rfl); done)))
          | (apply x_guardS; (focus rfl); (fail_if_success (focus (show _ = some true; (focus (simp only [go_sem, *]; (try rfl); done))))); (focus (simp only [go_sem, *]; (try rfl); done)); all_goals (intro hb; try simp only [Bool.not_eq_true', Bool.not_eq_false'] at hb))
          | (apply x_condS; (focus (simp only [go_sem, *]; (try rfl); done)); all_goals (intro hb; try simp only [Bool.not_eq_true', Bool.not_eq_false'] at hb))
          | (apply d_draw; (focus exact mixed); (focus ((simp only [List.size_toArray, List.length_cons, List.length_nil, Nat.reduceAdd]; try rfl); done)))
          | (apply d_done; (focus decide +kernel))
          | ((first | (apply d_take 0; (focus decide +kernel)) | (apply d_take 1; (focus decide +kernel)) | (apply d_take 2; (focus decide +kernel)) | (apply d_take 3; (focus decide +kernel)) | (apply d_take 4; (focus decide +kernel)) | (apply d_take 5; (focus decide +kernel)) | (apply d_take 6; (focus decide +kernel)) | (apply d_take 7; (focus decide +kernel)) | (apply d_take 8; (focus decide +kernel)) | (apply d_take 9; (focus decide +kernel)) | (apply d_take 10; (focus decide +kernel)) | (apply d_take 11; (focus decide +kernel)) | (apply d_take 12; (focus decide +kernel)) | (apply d_take 13; (focus decide +kernel)) | (apply d_take 14; (focus decide +kernel)) | (apply d_take 15; (focus decide +kernel)) | (apply d_take 16; (focus decide +kernel)) | (apply d_take 17; (focus decide +kernel))); (focus (first | exact qds_FPost | exact qds_RPost | exact qds_YB | assumption)); (focus rfl); (iterate 3 (focus (simp only [go_sem, *]; (try rfl); done))); (focus rfl); (focus (simp only [go_sem, *]; (try rfl); done)); simp only [putA])
          | ((first | (apply d_unw 0; (focus decide +kernel)) | (apply d_unw 1; (focus decide +kernel)) | (apply d_unw 2; (focus decide +kernel)) | (apply d_unw 3; (focus decide +kernel)) | (apply d_unw 4; (focus decide +kernel)) | (apply d_unw 5; (focus decide +kernel)) | (apply d_unw 6; (focus decide +kernel)) | (apply d_unw 7; (focus decide +kernel)) | (apply d_unw 8; (focus decide +kernel)) | (apply d_unw 9; (focus decide +kernel)) | (apply d_unw 10; (focus decide +kernel)) | (apply d_unw 11; (focus decide +kernel)) | (apply d_unw 12; (focus decide +kernel)) | (apply d_unw 13; (focus decide +kernel)) | (apply d_unw 14; (focus decide +kernel)) | (apply d_unw 15; (focus decide +kernel)) | (apply d_unw 16; (focus decide +kernel)) | (apply d_unw 17; (focus decide +kernel))); (focus (first | exact qds_FPost | exact qds_RPost | exact qds_YB | assumption)); (focus rfl); (iterate 2 (focus (simp only [go_sem, *]; (try rfl); done))); (focus rfl); simp only [putA])
          | (first | (apply d_one 0; (focus decide +kernel)) | (apply d_one 1; (focus decide +kernel)) | (apply d_one 2; (focus decide +kernel)) | (apply d_one 3; (focus decide +kernel)) | (apply d_one 4; (focus decide +kernel)) | (apply d_one 5; (focus decide +kernel)) | (apply d_one 6; (focus decide +kernel)) | (apply d_one 7; (focus decide +kernel)) | (apply d_one 8; (focus decide +kernel)) | (apply d_one 9; (focus decide +kernel)) | (apply d_one 10; (focus decide +kernel)) | (apply d_one 11; (focus decide +kernel)) | (apply d_one 12; (focus decide +kernel)) | (apply d_one 13; (focus decide +kernel)) | (apply d_one 14; (focus decide +kernel)) | (apply d_one 15; (focus decide +kernel)) | (apply d_one 16; (focus decide +kernel)) | (apply d_one 17; (focus decide +kernel)))
          | (apply o_step; (iterate 3 (focus (simp only [go_sem, *]; (try rfl); done))); (focus rfl); simp only [putA])
          | (apply o_unw; (iterate 2 (focus (simp only [go_sem, *]; (try rfl); done))); (focus rfl); simp only [putA])
          | apply pr_nil | apply pr_same | apply pr_go | apply pl_nil | apply pl_none | (apply pl_skip; (focus decide +kernel)) | (apply pl_one; (focus (simp only [go_sem, *]; (try rfl); done)))
        have hcl2 := hcl
        unfold Fm.av at hcl
        refine x_keep hO 3 [2, 3, 4, 5, 14] rfl (by (simp only [go_sem, *]; try rfl)) (by (simp only [go_sem, *]; try rfl)) ?_ ?_
        · simp only [List.take_succ_cons, List.take_zero, List.all_cons, List.all_nil, Bool.and_true, Bool.and_eq_true]
          refine ⟨rfl, rfl, ?_⟩
          have h1 := hcl (S.length + 3)
          have h2 := hlt' (S.length + 3)
          simp only [Blk.ltB] at h1 ⊢
          simp only [Bool.and_eq_true] at h1 ⊢
          exact ⟨h2, h1.2⟩
        · simp only [List.take_succ_cons, List.take_zero]
          refine HI.out (some (.int .i64 k, f.av), vis ++ [(.int .i64 k, f.av)], rest') _ _ ?_ ⟨?_, ?_, hcl2, ?_, ?_, ?_, ?_, ?_, ?_, rfl⟩
          · have := Hlr.out
            simp only [List.length_cons] at this ⊢
            omega
          · have := HP2.out
            simpa using this
          · intro k2 f2 hm2
            rcases List.mem_append.1 hm2 with h | h
            · exact HV.out k2 f2 h
            · rw [List.mem_singleton] at h
              have e2 := (Prod.mk.inj h).2
              have e3 : f2.kw = f.kw := by
                unfold Fm.av at e2
                simp only [AV.agg.injEq, List.cons.injEq, AV.str.injEq] at e2
                exact e2.1
              rw [e3]
              exact Hkw.out
          · (simp only [go_sem, *]; try rfl)
          · (simp only [go_sem, *]; try rfl)
          · (simp only [go_sem, *]; try rfl)
          · (simp only [go_sem, *]; try rfl)
          · (simp only [go_sem, *]; try rfl)
          · (simp only [go_sem, *]; try rfl)
end Go.Proofs.YtcobfilbmfokoaaGreatDoor
namespace Go.Proofs.YtcobfilbmfokoaaGreatDoor
open Go Go.Fen
set_option linter.unusedSimpArgs false
set_option linter.unusedVariables false
attribute [local irreducible] RunX WP ACall AnyP OpA ProtL
set_option maxRecDepth 8000
section
open Go.RowKit Go.Extern.Stop Go.Stop Go.Extern
theorem as_nil (t : Value) (w : World) :
    Calls Tryz.prog 32 #[.nilIface, t] w fun e w' => e = .returned (.bool false) ∧ w' = w := by
  go_enter Tryz.func32, Tryz.ntmps32
  go_wp2
  go_ret
  exact ⟨rfl, rfl⟩
theorem as_valueOf27 (t : Addr) (w : World) : (ReflectliteValue.unpack (.iface 72 (.pointer (some t)))).run Tryz.prog w
    = .ok (.agg #[.pointer (some ⟨9, 72, none⟩), .pointer (some ⟨w.heap.size, 0, none⟩), .int .u64 150]) (w.alloc (.cells #[.pointer (some t)] 72)) := by kernel_rfl
theorem as_type27 (a : Addr) (w : World) : (ReflectliteValue.methodAny (ReflectliteValue.valueError "reflectlite.Value.Type" 0) (fun t _ _ _ => ReflectliteType.toType t) #[.agg #[.pointer (some ⟨9, 72, none⟩), .pointer (some a), .int .u64 150]]).run Tryz.prog w
    = .ok (.iface 119 (.agg #[.pointer (some ⟨9, 72, none⟩)])) w := by kernel_rfl
theorem as_methodKind (h : Value) (w : World) : (Go.method 330 119 (.agg #[h]) "Kind").run Tryz.prog w = .ok (155, h) w := by kernel_rfl
theorem as_kind27 (w : World) : ((ReflectliteType.abiMethod fun t => (fun a : Nat => Value.int IntKind.u8 (a : Int)) <$> Rtype.kind t) #[.pointer (some ⟨9, 72, none⟩)]).run Tryz.prog w = .ok (.int .u8 22) w := by kernel_rfl
theorem as_kind25 (w : World) : ((ReflectliteType.abiMethod fun t => (fun a : Nat => Value.int IntKind.u8 (a : Int)) <$> Rtype.kind t) #[.pointer (some ⟨9, 70, none⟩)]).run Tryz.prog w = .ok (.int .u8 22) w := by kernel_rfl
theorem rlm (z : Sem Value) (f : TypeId → Addr → Nat → Nat → Sem Value) (v : Value) :
    ReflectliteValue.method z f #[v] = (do match ← ReflectliteValue.parts v with | none => z | some (t, a, fl) => f t a fl (fl % 32)) := rfl
theorem as_parts27 (a : Addr) (w : World) : (ReflectliteValue.parts (.agg #[.pointer (some ⟨9, 72, none⟩), .pointer (some a), .int .u64 150])).run Tryz.prog w = .ok (some (72, a, 150)) w := by kernel_rfl
theorem as_isNil27 (a p : Addr) (W : World) (ha : W.cell? a = some (.pointer (some p))) :
    (ReflectliteValue.method (ReflectliteValue.valueError "reflectlite.Value.IsNil" 0) ReflectliteValue.isNil #[.agg #[.pointer (some ⟨9, 72, none⟩), .pointer (some a), .int .u64 150]]).run Tryz.prog W = .ok (.bool false) W := by
  rw [rlm]
  simp only [Sem.run_bind, as_parts27, Result.andThen]
  simp [ReflectliteValue.isNil, loadVar, isAgg, underlying, Tryz.underlying72, ha, Result.andThen]
theorem as_methodElem (h : Value) (w : World) : (Go.method 330 119 (.agg #[h]) "Elem").run Tryz.prog w = .ok (166, .agg #[h]) w := by kernel_rfl
theorem as_methodImplements (h : Value) (w : World) : (Go.method 330 119 (.agg #[h]) "Implements").run Tryz.prog w = .ok (167, .agg #[h]) w := by kernel_rfl
theorem as_methodAssignableTo (h : Value) (w : World) : (Go.method 330 119 (.agg #[h]) "AssignableTo").run Tryz.prog w = .ok (164, .agg #[h]) w := by kernel_rfl
theorem as_elem27 (w : World) : (ReflectliteType.method ReflectliteType.elem #[.agg #[.pointer (some ⟨9, 72, none⟩)]]).run Tryz.prog w = .ok (.iface 119 (.agg #[.pointer (some ⟨9, 70, none⟩)])) w := by kernel_rfl
theorem as_implements25 (w : World) : (ReflectliteType.relation "Implements" ReflectliteType.implements_ #[.agg #[.pointer (some ⟨9, 70, none⟩)], .iface 119 (.agg #[.pointer (some ⟨9, 67, none⟩)])]).run Tryz.prog w = .ok (.bool true) w := by kernel_rfl
theorem as_typeOf25 (v : Value) (w : World) : (ReflectliteType.typeOf #[.iface 70 v]).run Tryz.prog w = .ok (.iface 119 (.agg #[.pointer (some ⟨9, 70, none⟩)])) w := by kernel_rfl
theorem as_assignable25 (w : World) : (ReflectliteType.relation "AssignableTo" ReflectliteType.assignableTo #[.agg #[.pointer (some ⟨9, 70, none⟩)], .iface 119 (.agg #[.pointer (some ⟨9, 70, none⟩)])]).run Tryz.prog w = .ok (.bool true) w := by kernel_rfl
theorem as_valueOf25 (e : Addr) (w : World) : (ReflectliteValue.unpack (.iface 70 (.pointer (some e)))).run Tryz.prog w
    = .ok (.agg #[.pointer (some ⟨9, 70, none⟩), .pointer (some ⟨w.heap.size, 0, none⟩), .int .u64 150]) (w.alloc (.cells #[.pointer (some e)] 70)) := by kernel_rfl
theorem as_elemOf27 (w : World) : (Rtype.elem? 72).run Tryz.prog w = .ok (some 70) w := by kernel_rfl
theorem as_mk25 (p : Addr) (w : World) : (ReflectliteValue.mk 70 p ReflectliteValue.flagAddr).run Tryz.prog w = .ok (.agg #[.pointer (some ⟨9, 70, none⟩), .pointer (some p), .int .u64 406]) w := by kernel_rfl
theorem as_elemV27 (a p : Addr) (W : World) (ha : W.cell? a = some (.pointer (some p))) :
    (ReflectliteValue.method (ReflectliteValue.valueError "reflectlite.Value.Elem" 0) ReflectliteValue.elem #[.agg #[.pointer (some ⟨9, 72, none⟩), .pointer (some a), .int .u64 150]]).run Tryz.prog W
      = .ok (.agg #[.pointer (some ⟨9, 70, none⟩), .pointer (some p), .int .u64 406]) W := by
  rw [rlm]
  simp only [Sem.run_bind, as_parts27, Result.andThen]
  simp [ReflectliteValue.elem, loadVar, isAgg, underlying, Tryz.underlying72, ha, Result.andThen, as_elemOf27, as_mk25]
theorem rls (v x : Value) : ReflectliteValue.set #[v, x] = (do
    let (some (dst, a, fl), some (src, b, _)) := (← ReflectliteValue.parts v, ← ReflectliteValue.parts x)
      | unsupported (.noEntry "extern/(internal/reflectlite.Value).Set.zeroValue")
    if fl / ReflectliteValue.flagAddr % 2 == 0 then unsupported (.noEntry "extern/(internal/reflectlite.Value).Set.unaddressable")
    let val ← loadVar src b
    if ← Rtype.directlyAssignable dst src then storeVar dst a val
    else if ← Rtype.implements dst src then
      if (← Rtype.kind src) == 20 then
        match val with
        | .nilIface => unsupported (.noEntry "extern/reflectlite: a nil value of one interface type handed on as a value of another")
        | _ => storeVar dst a val
      else storeVar dst a (.iface src val)
    else panicString ("reflectlite.Set: value of type " ++ (← Rtype.spelt src) ++ " is not assignable to type " ++ (← Rtype.spelt dst))
    pure (.tuple #[])) := rfl
theorem as_parts25a (a : Addr) (w : World) : (ReflectliteValue.parts (.agg #[.pointer (some ⟨9, 70, none⟩), .pointer (some a), .int .u64 406])).run Tryz.prog w = .ok (some (70, a, 406)) w := by kernel_rfl
theorem as_parts25 (a : Addr) (w : World) : (ReflectliteValue.parts (.agg #[.pointer (some ⟨9, 70, none⟩), .pointer (some a), .int .u64 150])).run Tryz.prog w = .ok (some (70, a, 150)) w := by kernel_rfl
theorem as_direct25 (w : World) : (Rtype.directlyAssignable 70 70).run Tryz.prog w = .ok true w := by kernel_rfl
theorem as_set25 (ta b e : Addr) (old : Value) (W : World) (hb : W.cell? b = some (.pointer (some e))) (ht : W.cell? ta = some old) (hf : W.frozen? ta = false) :
    (ReflectliteValue.set #[.agg #[.pointer (some ⟨9, 70, none⟩), .pointer (some ta), .int .u64 406], .agg #[.pointer (some ⟨9, 70, none⟩), .pointer (some b), .int .u64 150]]).run Tryz.prog W
      = .ok (.tuple #[]) (W.setCell ta (.pointer (some e))) := by
  rw [rls]
  simp only [Sem.run_bind, as_parts25a, as_parts25, Result.andThen]
  simp [ReflectliteValue.flagAddr, loadVar, isAgg, underlying, Tryz.underlying70, hb, Result.andThen, as_direct25, storeVar, Value.cells, storeCells, Addr.add]
  rw [run_store Tryz.prog W ta _ _ (by rfl)]
  simp [ht, hf]
set_option maxHeartbeats 4000000 in
theorem as_hit (e t : Addr) (old : Value) (w : World) (hg : w.cell? ⟨0, 0, none⟩ = some (.iface 119 (.agg #[.pointer (some ⟨9, 67, none⟩)]))) (ht0 : w.cell? t = some old) (hf0 : w.frozen? t = false) :
    Calls Tryz.prog 32 #[.iface 70 (.pointer (some e)), .iface 72 (.pointer (some t))] w fun ev w' => ev = .returned (.bool true) ∧ w' = ((((w.alloc (.cells #[.pointer (some t)] 72)).alloc (.cells #[.pointer (some ⟨9, 72, none⟩), .pointer (some ⟨w.heap.size, 0, none⟩), .int .u64 150] 95)).alloc (.cells #[.pointer (some ⟨9, 72, none⟩), .pointer (some ⟨w.heap.size, 0, none⟩), .int .u64 150] 95)).alloc (.cells #[.pointer (some e)] 70)).setCell t (.pointer (some e)) := by
  have h6 := @run_callFunc_extern Tryz.prog 47 _ (fun args => ReflectliteValue.unpack (args.getD 0 (.tuple #[]))) Tryz.func47 (by kernel_rfl) (by kernel_rfl) (by kernel_rfl) (by kernel_rfl)
  have h7 := @run_callFunc_extern Tryz.prog 48 _ (ReflectliteValue.methodAny (ReflectliteValue.valueError "reflectlite.Value.Type" 0) (fun t _ _ _ => ReflectliteType.toType t)) Tryz.func48 (by kernel_rfl) (by kernel_rfl) (by kernel_rfl) (by kernel_rfl)
  have h8 := @run_callFunc_extern Tryz.prog 49 _ (ReflectliteValue.method (ReflectliteValue.valueError "reflectlite.Value.IsNil" 0) ReflectliteValue.isNil) Tryz.func49 (by kernel_rfl) (by kernel_rfl) (by kernel_rfl) (by kernel_rfl)
  have h27 := @run_callFunc_extern Tryz.prog 155 _ (ReflectliteType.abiMethod fun t => do pure (.int .u8 (← Rtype.kind t))) Tryz.func155 (by kernel_rfl) (by kernel_rfl) (by kernel_rfl) (by kernel_rfl)
  have h37 := @run_callFunc_extern Tryz.prog 166 _ (ReflectliteType.method ReflectliteType.elem) Tryz.func166 (by kernel_rfl) (by kernel_rfl) (by kernel_rfl) (by kernel_rfl)
  have h38 := @run_callFunc_extern Tryz.prog 167 _ (ReflectliteType.relation "Implements" ReflectliteType.implements_) Tryz.func167 (by kernel_rfl) (by kernel_rfl) (by kernel_rfl) (by kernel_rfl)
  have h10 := @run_callFunc_extern Tryz.prog 65 _ ReflectliteType.typeOf Tryz.func65 (by kernel_rfl) (by kernel_rfl) (by kernel_rfl) (by kernel_rfl)
  have h35 := @run_callFunc_extern Tryz.prog 164 _ (ReflectliteType.relation "AssignableTo" ReflectliteType.assignableTo) Tryz.func164 (by kernel_rfl) (by kernel_rfl) (by kernel_rfl) (by kernel_rfl)
  have h11 := @run_callFunc_extern Tryz.prog 66 _ (ReflectliteValue.method (ReflectliteValue.valueError "reflectlite.Value.Elem" 0) ReflectliteValue.elem) Tryz.func66 (by kernel_rfl) (by kernel_rfl) (by kernel_rfl) (by kernel_rfl)
  have h12 := @run_callFunc_extern Tryz.prog 67 _ ReflectliteValue.set Tryz.func67 (by kernel_rfl) (by kernel_rfl) (by kernel_rfl) (by kernel_rfl)
  have tO := as_typeOf25
  have mA := as_methodAssignableTo
  have a25 := as_assignable25
  have v25 := as_valueOf25
  have f6 := as_valueOf27
  have f7 := as_type27
  have mK := as_methodKind
  have mE := as_methodElem
  have mI := as_methodImplements
  have k27 := as_kind27
  have k25 := as_kind25
  have e27 := as_elem27
  have i25 := as_implements25
  have n8 := as_isNil27 ⟨w.heap.size, 0, none⟩ t ((w.alloc (.cells #[.pointer (some t)] 72)).alloc (.cells #[.pointer (some ⟨9, 72, none⟩), .pointer (some ⟨w.heap.size, 0, none⟩), .int .u64 150] 95)) (by simp)
  have hlt : 0 < w.heap.size := by
    rcases Nat.eq_zero_or_pos w.heap.size with h0 | h
    · simp [World.cell?, h0] at hg
    · exact h
  have hg2 : ((w.alloc (.cells #[.pointer (some t)] 72)).alloc (.cells #[.pointer (some ⟨9, 72, none⟩), .pointer (some ⟨w.heap.size, 0, none⟩), .int .u64 150] 95)).cell? ⟨0, 0, none⟩ = some (.iface 119 (.agg #[.pointer (some ⟨9, 67, none⟩)])) := by
    rw [World.cell?_alloc_lt _ _ ⟨0, 0, none⟩ (by simp), World.cell?_alloc_lt _ _ ⟨0, 0, none⟩ hlt]; exact hg
  have htl : t.block < w.heap.size := by
    rcases Nat.lt_or_ge t.block w.heap.size with h | h
    · exact h
    · simp [World.cell?, Array.getElem?_eq_none h] at ht0
  have el := as_elemV27 ⟨w.heap.size, 0, none⟩ t (((w.alloc (.cells #[.pointer (some t)] 72)).alloc (.cells #[.pointer (some ⟨9, 72, none⟩), .pointer (some ⟨w.heap.size, 0, none⟩), .int .u64 150] 95)).alloc (.cells #[.pointer (some ⟨9, 72, none⟩), .pointer (some ⟨w.heap.size, 0, none⟩), .int .u64 150] 95)) (by rw [World.cell?_alloc_lt _ _ ⟨w.heap.size, 0, none⟩ (by simp; omega)]; simp)
  have st := as_set25 t ⟨w.heap.size + 1 + 1 + 1, 0, none⟩ e old ((((w.alloc (.cells #[.pointer (some t)] 72)).alloc (.cells #[.pointer (some ⟨9, 72, none⟩), .pointer (some ⟨w.heap.size, 0, none⟩), .int .u64 150] 95)).alloc (.cells #[.pointer (some ⟨9, 72, none⟩), .pointer (some ⟨w.heap.size, 0, none⟩), .int .u64 150] 95)).alloc (.cells #[.pointer (some e)] 70))
    (by rw [World.cell?_alloc_at _ _ _ _ (by simp)]; rfl)
    (by rw [World.cell?_alloc_lt _ _ t (by simp; omega), World.cell?_alloc_lt _ _ t (by simp; omega), World.cell?_alloc_lt _ _ t (by simp; omega), World.cell?_alloc_lt _ _ t htl]; exact ht0)
    (by rw [World.frozen?_alloc_old _ _ t (by simp; omega), World.frozen?_alloc_old _ _ t (by simp; omega), World.frozen?_alloc_old _ _ t (by simp; omega), World.frozen?_alloc_old _ _ t (Nat.ne_of_lt htl)]; exact hf0)
  go_enter Tryz.func32, Tryz.ntmps32
  go_wp2
  refine wp_loop_rounds 1 ?_
  rw [rounds_succ]
  go_wp2
  go_ret
  exact ⟨rfl, rfl⟩
end
end Go.Proofs.YtcobfilbmfokoaaGreatDoor
namespace Go.Proofs.YtcobfilbmfokoaaGreatDoor
open Go Go.Fen
set_option linter.unusedSimpArgs false
set_option linter.unusedVariables false
attribute [local irreducible] RunX WP ACall AnyP OpA ProtL
set_option maxRecDepth 8000
def ErrT (w0 : World) : Prop := w0.cell? ⟨0, 0, none⟩ = some (.iface 119 (.agg #[.pointer (some ⟨9, 67, none⟩)]))
theorem cAsNil (w0 : World) (S : List Blk) (x : AV) (R : AOut → List Blk → Prop) (h : R (.ret (.bool false)) S) : ACall Tryz.prog w0 32 [.inil, x] S R := by
  unfold ACall
  refine ⟨Go.Proofs.enters_of Tryz.func32 (by kernel_rfl) rfl, fun ι ψ w cargs hRel hal hargs => ?_⟩
  obtain ⟨c1, c2, rfl⟩ : ∃ c1 c2, cargs = #[c1, c2] := by
    obtain ⟨cl⟩ := cargs
    match cl, hal with
    | [a, b], _ => exact ⟨a, b, rfl⟩
  have v1 := hargs 0 _ c1 rfl rfl
  cases v1
  refine (as_nil c2 w).mono ?_
  rintro e w' ⟨rfl, rfl⟩
  exact ⟨ι, ψ, .ret (.bool false), S, Ext.refl _ _, hRel, .bool _, h⟩
theorem cAsHit (w0 : World) (hE : ErrT w0) (S : List Blk) (a : Nat) (cs : List AV) (ty : Option TypeId) (ha : S[a]? = some (.cells [.nilp] ty)) (R : AOut → List Blk → Prop) (h : R (.ret (.bool true)) (S.set a (.cells [.pro cs] ty))) :
    ACall Tryz.prog w0 32 [.ifc 70 (.pro cs), .ifc 72 (.own a 0)] S R := by
  unfold ACall
  refine ⟨Go.Proofs.enters_of Tryz.func32 (by kernel_rfl) rfl, fun ι ψ w cargs hRel hal hargs => ?_⟩
  obtain ⟨c1, c2, rfl⟩ : ∃ c1 c2, cargs = #[c1, c2] := by
    obtain ⟨cl⟩ := cargs
    match cl, hal with
    | [a, b], _ => exact ⟨a, b, rfl⟩
  have v1 := hargs 0 _ c1 rfl rfl
  have v2 := hargs 1 _ c2 rfl rfl
  cases v1 with
  | ifc _ _ p1 q1 =>
  cases v2 with
  | ifc _ _ p2 q2 =>
  cases q2 with
  | own _ _ pl hpl =>
  obtain ⟨ep, rfl⟩ : ∃ ep, p1 = .pointer (some ep) := by
    cases q1 with
    | pro _ b o cv _ _ => exact ⟨_, rfl⟩
  obtain ⟨hn0, ⟨c, T, hc, hcl, hcv⟩, hno, hty⟩ := hRel.blk a _ pl ha hpl
  obtain ⟨_, old, hold, _⟩ := hcv 0 .nilp rfl
  have hlt0 : 0 < w0.heap.size := World.block_lt_of_cell? w0 _ hE
  have hg : w.cell? ⟨0, 0, none⟩ = some (.iface 119 (.agg #[.pointer (some ⟨9, 67, none⟩)])) := hRel.psi _ _ _ (hRel.old 0 0 _ hlt0 hE)
  have ht0 : w.cell? ⟨pl.blk, 0, none⟩ = some old := by simp [World.cell?, hc, hold]
  have hf0 : w.frozen? ⟨pl.blk, 0, none⟩ = false := by simp [World.frozen?, hc]
  refine (as_hit ep ⟨pl.blk, 0, none⟩ old w hg ht0 hf0).mono ?_
  rintro ev w' ⟨rfl, rfl⟩
  have hbl : pl.blk < w.heap.size := World.block_lt_of_cell? w _ ht0
  have hR4 := (((hRel.alloc (.cells #[.pointer (some ⟨pl.blk, 0, none⟩)] 72)).alloc (.cells #[.pointer (some ⟨9, 72, none⟩), .pointer (some ⟨w.heap.size, 0, none⟩), .int .u64 150] 95)).alloc (.cells #[.pointer (some ⟨9, 72, none⟩), .pointer (some ⟨w.heap.size, 0, none⟩), .int .u64 150] 95)).alloc (.cells #[.pointer (some ep)] 70)
  obtain ⟨w2, hr2, hR2⟩ := hR4.storeCells (P := Tryz.prog) ha hpl 0 [.pro cs] [.pointer (some ep)] rfl (by
    intro j x hx
    cases j with
    | zero => cases hx; exact ⟨rfl, _, rfl, q1⟩
    | succ j => simp at hx) (by simp [Value.oneCell']) (by simp)
  have ht4 : ((((w.alloc (.cells #[.pointer (some ⟨pl.blk, 0, none⟩)] 72)).alloc (.cells #[.pointer (some ⟨9, 72, none⟩), .pointer (some ⟨w.heap.size, 0, none⟩), .int .u64 150] 95)).alloc (.cells #[.pointer (some ⟨9, 72, none⟩), .pointer (some ⟨w.heap.size, 0, none⟩), .int .u64 150] 95)).alloc (.cells #[.pointer (some ep)] 70)).cell? ⟨pl.blk, 0, none⟩ = some old := by
    rw [World.cell?_alloc_lt _ _ ⟨pl.blk, 0, none⟩ (by simp; omega), World.cell?_alloc_lt _ _ ⟨pl.blk, 0, none⟩ (by simp; omega), World.cell?_alloc_lt _ _ ⟨pl.blk, 0, none⟩ (by simp; omega), World.cell?_alloc_lt _ _ ⟨pl.blk, 0, none⟩ hbl]
    exact ht0
  have hf4 : ((((w.alloc (.cells #[.pointer (some ⟨pl.blk, 0, none⟩)] 72)).alloc (.cells #[.pointer (some ⟨9, 72, none⟩), .pointer (some ⟨w.heap.size, 0, none⟩), .int .u64 150] 95)).alloc (.cells #[.pointer (some ⟨9, 72, none⟩), .pointer (some ⟨w.heap.size, 0, none⟩), .int .u64 150] 95)).alloc (.cells #[.pointer (some ep)] 70)).frozen? ⟨pl.blk, 0, none⟩ = false := by
    rw [World.frozen?_alloc_old _ _ ⟨pl.blk, 0, none⟩ (by simp; omega), World.frozen?_alloc_old _ _ ⟨pl.blk, 0, none⟩ (by simp; omega), World.frozen?_alloc_old _ _ ⟨pl.blk, 0, none⟩ (by simp; omega), World.frozen?_alloc_old _ _ ⟨pl.blk, 0, none⟩ (Nat.ne_of_lt hbl)]
    exact hf0
  generalize ((((w.alloc (.cells #[.pointer (some ⟨pl.blk, 0, none⟩)] 72)).alloc (.cells #[.pointer (some ⟨9, 72, none⟩), .pointer (some ⟨w.heap.size, 0, none⟩), .int .u64 150] 95)).alloc (.cells #[.pointer (some ⟨9, 72, none⟩), .pointer (some ⟨w.heap.size, 0, none⟩), .int .u64 150] 95)).alloc (.cells #[.pointer (some ep)] 70)) = w4 at hr2 ht4 hf4 hR4 ⊢
  have hst : (Go.storeCells ⟨pl.blk, 0, none⟩ [.pointer (some ep)]).run Tryz.prog w4 = .ok () (w4.setCell ⟨pl.blk, 0, none⟩ (.pointer (some ep))) := by
    simp [Go.storeCells, Addr.add]
    rw [run_store Tryz.prog w4 ⟨pl.blk, 0, none⟩ _ _ (by rfl)]
    simp [ht4, hf4]
  rw [hst] at hr2
  cases hr2
  exact ⟨ι, ψ, .ret (.bool true), _, Ext.refl _ _, by simpa [splice] using hR2, .bool _, h⟩
end Go.Proofs.YtcobfilbmfokoaaGreatDoor
namespace Go.Proofs.YtcobfilbmfokoaaGreatDoor
open Go Go.Fen
set_option linter.unusedSimpArgs false
set_option linter.unusedVariables false
attribute [local irreducible] RunX WP ACall AnyP OpA ProtL
set_option maxRecDepth 8000
theorem unq_len : ∀ (n : Nat) (s acc x r : List UInt8), s.length ≤ n → unqC acc s = some (x, r) → x.length ≤ acc.length + s.length
  | _, [], acc, x, r, _, h => by cases h
  | 0, c :: s, acc, x, r, hn, h => by simp at hn
  | n + 1, c :: s, acc, x, r, hn, h => by
    simp only [List.length_cons] at hn ⊢
    by_cases h1 : c.toNat = 34
    · rw [unqC_cons, if_pos h1] at h
      cases h
      omega
    · by_cases h2 : c.toNat = 92
      · rw [unq_92 acc s c h2] at h
        cases he : escP s with
        | none => rw [he] at h; cases h
        | some w =>
          obtain ⟨v, r2⟩ := w
          rw [he] at h
          obtain ⟨e1, e2⟩ := escP_suf he
          have := unq_len n r2 _ x r (by omega) h
          simp at this; omega
      · rw [unqC_cons, if_neg h1, if_pos h2] at h
        split at h
        · have := unq_len n s _ x r (by omega) h
          simp at this; omega
        · cases h
theorem quo_len {s x r : List UInt8} (h : quoC s = some (x, r)) : x.length ≤ s.length := by
  unfold quoC at h
  have hs : (skipC s).length ≤ s.length := (List.dropWhile_suffix _).length_le
  cases hq : skipC s with
  | nil => rw [hq] at h; cases h
  | cons c r2 =>
    rw [hq] at h hs
    simp only at h
    simp only [List.length_cons] at hs
    split at h
    · have := unq_len _ r2 _ x r (Nat.le_refl _) h
      simp at this; omega
    · cases h
theorem word_len (s : List UInt8) : (wordC s).2.length ≤ s.length := by
  have h1 : (skipC s).length ≤ s.length := (List.dropWhile_suffix _).length_le
  have h2 := (List.dropWhile_suffix (fun b => b != 32) (l := skipC s)).length_le
  unfold wordC; simp only; omega
theorem args_len {k : Int} {f : Fm} {s : List UInt8} {c : Cm} (h : argsC k f s = some c) : c.text.length ≤ s.length := by
  unfold argsC at h
  cases hw : wordsC f s with
  | none => rw [hw] at h; cases h
  | some w =>
    obtain ⟨n, s1⟩ := w
    rw [hw] at h
    have hs1 : s1.length ≤ s.length := by
      unfold wordsC at hw
      split at hw
      · cases hw; exact Nat.le_refl _
      · cases hi : idxC f.words (wordC s).1 with
        | none => rw [hi] at hw; cases hw
        | some i => rw [hi] at hw; cases hw; exact word_len s
    simp only at h
    split at h
    · cases h
    · next c2 s2 hm =>
      have hc2 : c2.text.length ≤ s.length := by
        split at hm
        · simp only [Option.map_eq_some_iff] at hm
          obtain ⟨v, _, hv⟩ := hm
          cases hv; simp
        · split at hm
          · simp only [Option.map_eq_some_iff] at hm
            obtain ⟨v, _, hv⟩ := hm
            cases hv; simp
          · split at hm
            · split at hm
              · cases hm; simp
              · simp only [Option.map_eq_some_iff] at hm
                obtain ⟨v, hq, hv⟩ := hm
                obtain ⟨x, r⟩ := v
                cases hv
                have := quo_len hq
                simp only; omega
            · cases hm; simp
      split at h
      · cases h; exact hc2
      · cases h
theorem read_len {s : List UInt8} {c : Cm} (h : readC s = some c) : c.text.length ≤ s.length := by
  unfold readC at h
  split at h
  · cases h
  · have := args_len h
    have := word_len s
    omega
set_option maxHeartbeats 4000000 in
theorem cParse (w0 : World) (hPU : PU16 w0) (hE : ErrT w0) (S : List Blk) (s : List UInt8) (hs : s.length ≤ 10000000) (R : AOut → List Blk → Prop) (h : R (.ret (.tup [(parseC s).1.av, .int .i64 (parseC s).2])) S) :
    ACall Tryz.prog w0 15 [.str s] S R := by
  have hpa := fun (S' : List Blk) (R : AOut → List Blk → Prop) => cParse0 w0 hPU S' s hs R
  unfold parseC at h
  cases hr : readC s with
  | none =>
    rw [hr] at h
    have hpa := fun (S' : List Blk) (R : AOut → List Blk → Prop) (hh : ∀ c q, R (.ret (.tup [Cm.av c, errV q])) S') => hpa S' R (fun c hc => by rw [hr] at hc; cases hc) (fun _ => hh)
    have hAs := cAsHit w0 hE
    simp only [errV] at hpa
    unfold Cm.av at h hpa
    simp only [zeroC] at h
    clear hr
    refine enter Tryz.func15 rfl (by decide +kernel) (by rw [Tryz.ntmps15]; simp) (by rw [Tryz.ntmps15]; decide) (fun hO => ?_); rw [Tryz.ntmps15]
    repeat' first
      | apply x_seq | apply x_skip | apply x_block | apply x_exit | apply x_ret | apply x_ops_nil | apply p_blk | apply p_exit_it | apply p_exit_hit | apply p_ret_it | apply p_ret_blk | apply p_panic_it | apply p_panic_blk | apply p_end
      | (apply p_exit_miss; (focus rfl))
      | (apply x_region; simp only [List.toList_toArray])
      | (apply x_step0; (focus rfl); (focus (simp only [go_sem, *]; (try rfl); done)); (focus rfl); simp only [putA])
      | (apply x_callA []; (focus (simp only [go_sem, *]; (try rfl); done)); (focus rfl); (focus (simp only [go_sem, *]; (try rfl); done)); (focus rfl); (iterate 2 (focus (simp only [go_sem, *]; (try rfl); done))); (first | (apply hpa)); simp only [afterCall, putA])
      | (apply x_panic; (focus (simp only [go_sem, *]; (try rfl); done)); (focus rfl); (focus (simp only [go_sem, *]; (try rfl); done)))
      | (apply x_step; (iterate 2 (focus (simp only [go_sem, *]; (try rfl); done))); (focus rfl); simp only [putA])
      | (apply x_unwanted; (focus (simp only [go_sem, *]; (try rfl); done)); (focus rfl); simp only [putA])
      | (apply x_condT; (focus (simp only [go_sem, *]; (try rfl); done)))
      | (apply x_condF; (focus (simp only [go_sem, *]; (try rfl); done)))
      | (apply x_guardS; (focus rfl); (fail_if_success (focus (show _ = some true; (focus (simp only [go_sem, *]; (try rfl); done))))); (focus (simp only [go_sem, *]; (try rfl); done)); all_goals (intro hb; try simp only [Bool.not_eq_true', Bool.not_eq_false'] at hb))
      | (apply x_condS; (focus (simp only [go_sem, *]; (try rfl); done)); all_goals (intro hb; try simp only [Bool.not_eq_true', Bool.not_eq_false'] at hb))
    intro c q
    repeat' first
      | apply x_seq | apply x_skip | apply x_block | apply x_exit | apply x_ret | apply x_ops_nil | apply p_blk | apply p_exit_it | apply p_exit_hit | apply p_ret_it | apply p_ret_blk | apply p_panic_it | apply p_panic_blk | apply p_end
      | (apply p_exit_miss; (focus rfl))
      | (apply x_region; simp only [List.toList_toArray])
      | (apply x_step0; (focus rfl); (focus (simp only [go_sem, *]; (try rfl); done)); (focus rfl); simp only [putA])
      | (apply x_callA []; (focus (simp only [go_sem, *]; (try rfl); done)); (focus rfl); (focus (simp only [go_sem, *]; (try rfl); done)); (focus rfl); (iterate 2 (focus (simp only [go_sem, *]; (try rfl); done))); (first | (apply hAs; (focus (simp only [go_sem, *]; (try rfl); done)))); simp only [afterCall, putA])
      | (apply x_panic; (focus (simp only [go_sem, *]; (try rfl); done)); (focus rfl); (focus (simp only [go_sem, *]; (try rfl); done)))
      | (apply x_step; (iterate 2 (focus (simp only [go_sem, *]; (try rfl); done))); (focus rfl); simp only [putA])
      | (apply x_unwanted; (focus (simp only [go_sem, *]; (try rfl); done)); (focus rfl); simp only [putA])
      | (apply x_condT; (focus (simp only [go_sem, *]; (try rfl); done)))
      | (apply x_condF; (focus (simp only [go_sem, *]; (try rfl); done)))
      | (apply x_guardS; (focus rfl); (fail_if_success (focus (show _ = some true; (focus (simp only [go_sem, *]; (try rfl); done))))); (focus (simp only [go_sem, *]; (try rfl); done)); all_goals (intro hb; try simp only [Bool.not_eq_true', Bool.not_eq_false'] at hb))
      | (apply x_condS; (focus (simp only [go_sem, *]; (try rfl); done)); all_goals (intro hb; try simp only [Bool.not_eq_true', Bool.not_eq_false'] at hb))
    all_goals (apply f_ret; iterate 7 (focus (simp only [go_sem, *, Tryz.results15]; (try rfl); done)))
    all_goals exact h
  | some c =>
    have hpa := fun (S' : List Blk) (R : AOut → List Blk → Prop) (hh : R (.ret (.tup [Cm.av c, .inil])) S') => hpa S' R (fun c' hc => by rw [hr] at hc; cases hc; exact hh) (fun hn => by rw [hr] at hn; cases hn)
    have hck := fun S' => cCheck w0 S' c (by have := read_len hr; omega)
    have hAs := cAsNil w0
    rw [hr] at h
    simp only at h
    cases hc : checkC c with
    | true =>
      simp only [hc, if_true] at h hck
      unfold Cm.av at h hpa hck
      clear hr hc
      refine enter Tryz.func15 rfl (by decide +kernel) (by rw [Tryz.ntmps15]; simp) (by rw [Tryz.ntmps15]; decide) (fun hO => ?_); rw [Tryz.ntmps15]
      repeat' first
        | apply x_seq | apply x_skip | apply x_block | apply x_exit | apply x_ret | apply x_ops_nil | apply p_blk | apply p_exit_it | apply p_exit_hit | apply p_ret_it | apply p_ret_blk | apply p_panic_it | apply p_panic_blk | apply p_end
        | (apply p_exit_miss; (focus rfl))
        | (apply x_region; simp only [List.toList_toArray])
        | (apply x_step0; (focus rfl); (focus (simp only [go_sem, *]; (try rfl); done)); (focus rfl); simp only [putA])
        | (apply x_callA []; (focus (simp only [go_sem, *]; (try rfl); done)); (focus rfl); (focus (simp only [go_sem, *]; (try rfl); done)); (focus rfl); (iterate 2 (focus (simp only [go_sem, *]; (try rfl); done))); (first | (apply hpa) | (apply hAs) | (apply hck)); simp only [afterCall, putA])
        | (apply x_panic; (focus (simp only [go_sem, *]; (try rfl); done)); (focus rfl); (focus (simp only [go_sem, *]; (try rfl); done)))
        | (apply x_step; (iterate 2 (focus (simp only [go_sem, *]; (try rfl); done))); (focus rfl); simp only [putA])
        | (apply x_unwanted; (focus (simp only [go_sem, *]; (try rfl); done)); (focus rfl); simp only [putA])
        | (apply x_condT; (focus (simp only [go_sem, *]; (try rfl); done)))
        | (apply x_condF; (focus (simp only [go_sem, *]; (try rfl); done)))
        | (apply x_guardS; (focus rfl); (fail_if_success (focus (show _ = some true; (focus (simp only [go_sem, *]; (try rfl); done))))); (focus (simp only [go_sem, *]; (try rfl); done)); all_goals (intro hb; try simp only [Bool.not_eq_true', Bool.not_eq_false'] at hb))
        | (apply x_condS; (focus (simp only [go_sem, *]; (try rfl); done)); all_goals (intro hb; try simp only [Bool.not_eq_true', Bool.not_eq_false'] at hb))
      all_goals (apply f_ret; iterate 7 (focus (simp only [go_sem, *, Tryz.results15]; (try rfl); done)))
      all_goals exact h
    | false =>
      simp only [hc, Bool.false_eq_true, if_false] at h hck
      unfold Cm.av at h hpa hck
      simp only [zeroC] at h
      clear hr hc
      refine enter Tryz.func15 rfl (by decide +kernel) (by rw [Tryz.ntmps15]; simp) (by rw [Tryz.ntmps15]; decide) (fun hO => ?_); rw [Tryz.ntmps15]
      repeat' first
        | apply x_seq | apply x_skip | apply x_block | apply x_exit | apply x_ret | apply x_ops_nil | apply p_blk | apply p_exit_it | apply p_exit_hit | apply p_ret_it | apply p_ret_blk | apply p_panic_it | apply p_panic_blk | apply p_end
        | (apply p_exit_miss; (focus rfl))
        | (apply x_region; simp only [List.toList_toArray])
        | (apply x_step0; (focus rfl); (focus (simp only [go_sem, *]; (try rfl); done)); (focus rfl); simp only [putA])
        | (apply x_callA []; (focus (simp only [go_sem, *]; (try rfl); done)); (focus rfl); (focus (simp only [go_sem, *]; (try rfl); done)); (focus rfl); (iterate 2 (focus (simp only [go_sem, *]; (try rfl); done))); (first | (apply hpa) | (apply hAs) | (apply hck)); simp only [afterCall, putA])
        | (apply x_panic; (focus (simp only [go_sem, *]; (try rfl); done)); (focus rfl); (focus (simp only [go_sem, *]; (try rfl); done)))
        | (apply x_step; (iterate 2 (focus (simp only [go_sem, *]; (try rfl); done))); (focus rfl); simp only [putA])
        | (apply x_unwanted; (focus (simp only [go_sem, *]; (try rfl); done)); (focus rfl); simp only [putA])
        | (apply x_condT; (focus (simp only [go_sem, *]; (try rfl); done)))
        | (apply x_condF; (focus (simp only [go_sem, *]; (try rfl); done)))
        | (apply x_guardS; (focus rfl); (fail_if_success (focus (show _ = some true; (focus (simp only [go_sem, *]; (try rfl); done))))); (focus (simp only [go_sem, *]; (try rfl); done)); all_goals (intro hb; try simp only [Bool.not_eq_true', Bool.not_eq_false'] at hb))
        | (apply x_condS; (focus (simp only [go_sem, *]; (try rfl); done)); all_goals (intro hb; try simp only [Bool.not_eq_true', Bool.not_eq_false'] at hb))
      all_goals (apply f_ret; iterate 7 (focus (simp only [go_sem, *, Tryz.results15]; (try rfl); done)))
      all_goals exact h
end Go.Proofs.YtcobfilbmfokoaaGreatDoor
namespace Go.Proofs.YtcobfilbmfokoaaGreatDoor
open Go Go.Fen
set_option linter.unusedSimpArgs false
set_option linter.unusedVariables false
attribute [local irreducible] RunX WP ACall AnyP OpA ProtL
set_option maxRecDepth 8000
def PrOk (c : Cm) (x : List UInt8) : Prop := printP c = (x, 0) ∧ parseC x = (c, 0) ∧ x.length ≤ 10000000 ∧ c.text.length ≤ 10000000
def PaOk (s : List UInt8) (c : Cm) : Prop := parseC s = (c, 0) ∧ s.length ≤ 10000000
def RfOk (s : List UInt8) (e : Int) : Prop := parseC s = (zeroC, e) ∧ s.length ≤ 10000000
theorem prints (w0 : World) (hT : Tab w0) (hPU : PU16 w0) (hE : ErrT w0) (S : List Blk) (k n m : Int) (t x : List UInt8) (hok : PrOk ⟨k, n, m, t⟩ x) (R : AOut → List Blk → Prop) (h : R (.ret (.bool true)) S) :
    ACall Tryz.prog w0 20 [.agg [.int .i64 k, .int .i64 n, .int .i64 m, .str t], .str x] S R := by
  obtain ⟨h1, h2, h3, h4⟩ := hok
  have hp := fun S' => cPrint w0 hT S' ⟨k, n, m, t⟩ h4
  have hq := fun S' => cParse w0 hPU hE S' x h3
  rw [h1] at hp
  rw [h2] at hq
  unfold Cm.av at hp hq
  clear h1 h2 h3 h4 hT hPU hE
  refine enter Tryz.func20 rfl (by decide +kernel) (by rw [Tryz.ntmps20]; simp) (by rw [Tryz.ntmps20]; decide) (fun hO => ?_); rw [Tryz.ntmps20]
  repeat' first
    | apply x_seq | apply x_skip | apply x_block | apply x_exit | apply x_ret | apply x_ops_nil | apply p_blk | apply p_exit_it | apply p_exit_hit | apply p_ret_it | apply p_ret_blk | apply p_panic_it | apply p_panic_blk | apply p_end
    | (apply p_exit_miss; (focus rfl))
    | (apply x_region; simp only [List.toList_toArray])
    | (apply x_step0; (focus rfl); (focus (simp only [go_sem, *]; (try rfl); done)); (focus rfl); simp only [putA])
    | (apply x_callA []; (focus (simp only [go_sem, *]; (try rfl); done)); (focus rfl); (focus (simp only [go_sem, *]; (try rfl); done)); (focus rfl); (iterate 2 (focus (simp only [go_sem, *]; (try rfl); done))); (first | (apply hp) | (apply hq)); simp only [afterCall, putA])
    | (apply x_panic; (focus (simp only [go_sem, *]; (try rfl); done)); (focus rfl); (focus (simp only [go_sem, *]; (try rfl); done)))
    | (apply x_step; (iterate 2 (focus (simp only [go_sem, *]; (try rfl); done))); (focus rfl); simp only [putA])
    | (apply x_unwanted; (focus (simp only [go_sem, *]; (try rfl); done)); (focus rfl); simp only [putA])
    | (apply x_condT; (focus (simp only [go_sem, *]; (try rfl); done)))
    | (apply x_condF; (focus (simp only [go_sem, *]; (try rfl); done)))
    | (apply x_guardS; (focus rfl); (fail_if_success (focus (show _ = some true; (focus (simp only [go_sem, *]; (try rfl); done))))); (focus (simp only [go_sem, *]; (try rfl); done)); all_goals (intro hb; try simp only [Bool.not_eq_true', Bool.not_eq_false'] at hb))
    | (apply x_condS; (focus (simp only [go_sem, *]; (try rfl); done)); all_goals (intro hb; try simp only [Bool.not_eq_true', Bool.not_eq_false'] at hb))
  (apply f_ret; iterate 7 (focus (simp only [go_sem, *, Tryz.results20]; (try rfl); done)))
  exact h
theorem parses (w0 : World) (hT : Tab w0) (hPU : PU16 w0) (hE : ErrT w0) (S : List Blk) (k n m : Int) (t x : List UInt8) (hok : PaOk x ⟨k, n, m, t⟩) (R : AOut → List Blk → Prop) (h : R (.ret (.bool true)) S) :
    ACall Tryz.prog w0 14 [.str x, .agg [.int .i64 k, .int .i64 n, .int .i64 m, .str t]] S R := by
  obtain ⟨h2, h3⟩ := hok
  have hq := fun S' => cParse w0 hPU hE S' x h3
  rw [h2] at hq
  unfold Cm.av at hq
  clear h2 h3 hT hPU hE
  refine enter Tryz.func14 rfl (by decide +kernel) (by rw [Tryz.ntmps14]; simp) (by rw [Tryz.ntmps14]; decide) (fun hO => ?_); rw [Tryz.ntmps14]
  repeat' first
    | apply x_seq | apply x_skip | apply x_block | apply x_exit | apply x_ret | apply x_ops_nil | apply p_blk | apply p_exit_it | apply p_exit_hit | apply p_ret_it | apply p_ret_blk | apply p_panic_it | apply p_panic_blk | apply p_end
    | (apply p_exit_miss; (focus rfl))
    | (apply x_region; simp only [List.toList_toArray])
    | (apply x_step0; (focus rfl); (focus (simp only [go_sem, *]; (try rfl); done)); (focus rfl); simp only [putA])
    | (apply x_callA []; (focus (simp only [go_sem, *]; (try rfl); done)); (focus rfl); (focus (simp only [go_sem, *]; (try rfl); done)); (focus rfl); (iterate 2 (focus (simp only [go_sem, *]; (try rfl); done))); (first | (apply hq)); simp only [afterCall, putA])
    | (apply x_panic; (focus (simp only [go_sem, *]; (try rfl); done)); (focus rfl); (focus (simp only [go_sem, *]; (try rfl); done)))
    | (apply x_step; (iterate 2 (focus (simp only [go_sem, *]; (try rfl); done))); (focus rfl); simp only [putA])
    | (apply x_unwanted; (focus (simp only [go_sem, *]; (try rfl); done)); (focus rfl); simp only [putA])
    | (apply x_condT; (focus (simp only [go_sem, *]; (try rfl); done)))
    | (apply x_condF; (focus (simp only [go_sem, *]; (try rfl); done)))
    | (apply x_guardS; (focus rfl); (fail_if_success (focus (show _ = some true; (focus (simp only [go_sem, *]; (try rfl); done))))); (focus (simp only [go_sem, *]; (try rfl); done)); all_goals (intro hb; try simp only [Bool.not_eq_true', Bool.not_eq_false'] at hb))
    | (apply x_condS; (focus (simp only [go_sem, *]; (try rfl); done)); all_goals (intro hb; try simp only [Bool.not_eq_true', Bool.not_eq_false'] at hb))
  (apply f_ret; iterate 7 (focus (simp only [go_sem, *, Tryz.results14]; (try rfl); done)))
  exact h
theorem refused (w0 : World) (hT : Tab w0) (hPU : PU16 w0) (hE : ErrT w0) (S : List Blk) (x : List UInt8) (e : Int) (hok : RfOk x e) (R : AOut → List Blk → Prop) (h : R (.ret (.bool true)) S) :
    ACall Tryz.prog w0 19 [.str x, .int .i64 e] S R := by
  obtain ⟨h2, h3⟩ := hok
  have hq := fun S' => cParse w0 hPU hE S' x h3
  rw [h2] at hq
  unfold Cm.av at hq
  simp only [zeroC] at hq
  clear h2 h3 hT hPU hE
  refine enter Tryz.func19 rfl (by decide +kernel) (by rw [Tryz.ntmps19]; simp) (by rw [Tryz.ntmps19]; decide) (fun hO => ?_); rw [Tryz.ntmps19]
  repeat' first
    | apply x_seq | apply x_skip | apply x_block | apply x_exit | apply x_ret | apply x_ops_nil | apply p_blk | apply p_exit_it | apply p_exit_hit | apply p_ret_it | apply p_ret_blk | apply p_panic_it | apply p_panic_blk | apply p_end
    | (apply p_exit_miss; (focus rfl))
    | (apply x_region; simp only [List.toList_toArray])
    | (apply x_step0; (focus rfl); (focus (simp only [go_sem, *]; (try rfl); done)); (focus rfl); simp only [putA])
    | (apply x_callA []; (focus (simp only [go_sem, *]; (try rfl); done)); (focus rfl); (focus (simp only [go_sem, *]; (try rfl); done)); (focus rfl); (iterate 2 (focus (simp only [go_sem, *]; (try rfl); done))); (first | (apply hq)); simp only [afterCall, putA])
    | (apply x_panic; (focus (simp only [go_sem, *]; (try rfl); done)); (focus rfl); (focus (simp only [go_sem, *]; (try rfl); done)))
    | (apply x_step; (iterate 2 (focus (simp only [go_sem, *]; (try rfl); done))); (focus rfl); simp only [putA])
    | (apply x_unwanted; (focus (simp only [go_sem, *]; (try rfl); done)); (focus rfl); simp only [putA])
    | (apply x_condT; (focus (simp only [go_sem, *]; (try rfl); done)))
    | (apply x_condF; (focus (simp only [go_sem, *]; (try rfl); done)))
    | (apply x_guardS; (focus rfl); (fail_if_success (focus (show _ = some true; (focus (simp only [go_sem, *]; (try rfl); done))))); (focus (simp only [go_sem, *]; (try rfl); done)); all_goals (intro hb; try simp only [Bool.not_eq_true', Bool.not_eq_false'] at hb))
    | (apply x_condS; (focus (simp only [go_sem, *]; (try rfl); done)); all_goals (intro hb; try simp only [Bool.not_eq_true', Bool.not_eq_false'] at hb))
  (apply f_ret; iterate 7 (focus (simp only [go_sem, *, Tryz.results19]; (try rfl); done)))
  exact h
theorem wP0 : PrOk ⟨1, 1, 0, []⟩ [115, 112, 108, 105, 116, 32, 100, 111, 119, 110] := ⟨by decide +kernel, by decide +kernel, by decide, by decide⟩
theorem wP1 : PrOk ⟨6, 2, 5, []⟩ [114, 101, 115, 105, 122, 101, 32, 114, 105, 103, 104, 116, 32, 53] := ⟨by decide +kernel, by decide +kernel, by decide, by decide⟩
theorem wP2 : PrOk ⟨10, 0, 0, [97, 13]⟩ [115, 101, 110, 100, 32, 34, 97, 92, 120, 48, 100, 34] := ⟨by decide +kernel, by decide +kernel, by decide, by decide⟩
theorem wA0 : PaOk [115, 101, 108, 101, 99, 116, 32, 32, 108, 101, 102, 116, 32] ⟨3, 3, 0, []⟩ := ⟨by decide +kernel, by decide⟩
theorem wA1 : PaOk [119, 105, 110, 100, 111, 119, 32, 48, 55] ⟨13, 7, 0, []⟩ := ⟨by decide +kernel, by decide⟩
theorem wA2 : PaOk [110, 101, 119, 45, 119, 105, 110, 100, 111, 119] ⟨12, 0, 0, []⟩ := ⟨by decide +kernel, by decide⟩
theorem wR0 : RfOk [119, 105, 110, 100, 111, 119, 32, 49, 48] 500 := ⟨by decide +kernel, by decide⟩
theorem wR1 : RfOk [114, 101, 115, 105, 122, 101, 32, 117, 112, 32, 48] 500 := ⟨by decide +kernel, by decide⟩
theorem wR2 : RfOk [115, 99, 114, 111, 108, 108, 32, 98, 97, 99, 107, 32, 49, 48, 49] 500 := ⟨by decide +kernel, by decide⟩
theorem wS0 : RfOk [] 6 := ⟨by decide +kernel, by decide⟩
theorem wS1 : RfOk [75, 105, 108, 108] 6 := ⟨by decide +kernel, by decide⟩
theorem wS2 : RfOk [107, 105, 108, 108, 32, 49] 6 := ⟨by decide +kernel, by decide⟩
theorem wS3 : RfOk [115, 101, 110, 100, 32, 97] 6 := ⟨by decide +kernel, by decide⟩
theorem wS4 : RfOk [115, 101, 110, 100, 32, 34, 97] 6 := ⟨by decide +kernel, by decide⟩
theorem wS5 : RfOk [119, 105, 110, 100, 111, 119, 32, 48, 48, 48, 49] 6 := ⟨by decide +kernel, by decide⟩
theorem wX : printP ⟨11, 0, 0, [255]⟩ = ([], 500) := by decide +kernel
theorem wY : printP ⟨7, 1, 0, []⟩ = ([], 500) := by decide +kernel
set_option maxHeartbeats 16000000 in
theorem works (w0 : World) (hT : Tab w0) (hPU : PU16 w0) (hE : ErrT w0) (S : List Blk) (R : AOut → List Blk → Prop) (h : R (.ret (.bool true)) S) : ACall Tryz.prog w0 13 [] S R := by
  have hpr := Lib.hid (prints w0 hT hPU hE)
  have hpa := Lib.hid (parses w0 hT hPU hE)
  have hrf := Lib.hid (refused w0 hT hPU hE)
  have hx := fun S' => cPrint w0 hT S' ⟨11, 0, 0, [255]⟩ (by decide)
  have hy := fun S' => cPrint w0 hT S' ⟨7, 1, 0, []⟩ (by decide)
  rw [wX] at hx
  rw [wY] at hy
  unfold Cm.av at hx hy
  replace hx := Lib.hid hx
  replace hy := Lib.hid hy
  have p0 := wP0
  have a0 := wA0
  have r0 := wR0
  have p1 := wP1
  have a1 := wA1
  have r1 := wR1
  have p2 := wP2
  have a2 := wA2
  have r2 := wR2
  have z0 := wS0
  have z1 := wS1
  have z2 := wS2
  have z3 := wS3
  have z4 := wS4
  have z5 := wS5
  clear hT hPU hE
  refine enter Tryz.func13 rfl (by decide +kernel) (by rw [Tryz.ntmps13]; simp) (by rw [Tryz.ntmps13]; decide) (fun hO => ?_); rw [Tryz.ntmps13]
  repeat' first
    | apply x_seq | apply x_skip | apply x_block | apply x_exit | apply x_ret | apply x_ops_nil | apply p_blk | apply p_exit_it | apply p_exit_hit | apply p_ret_it | apply p_ret_blk | apply p_panic_it | apply p_panic_blk | apply p_end
    | (apply p_exit_miss; (focus rfl))
    | (apply x_region; simp only [List.toList_toArray])
    | (apply x_step0; (focus rfl); (focus (simp only [go_sem, *]; (try rfl); done)); (focus rfl); simp only [putA])
    | (apply x_callA []; (focus (simp only [go_sem, *]; (try rfl); done)); (focus rfl); (focus (simp only [go_sem, *]; (try rfl); done)); (focus rfl); (iterate 2 (focus (simp only [go_sem, *]; (try rfl); done))); (first | (apply hpr.out; (focus (simp only [go_sem, *]; (try rfl); done))) | (apply hpa.out; (focus (simp only [go_sem, *]; (try rfl); done))) | (apply hrf.out; (focus (simp only [go_sem, *]; (try rfl); done))) | (apply hx.out) | (apply hy.out)); simp only [afterCall, putA])
    | (apply x_panic; (focus (simp only [go_sem, *]; (try rfl); done)); (focus rfl); (focus (simp only [go_sem, *]; (try rfl); done)))
    | (apply x_step; (iterate 2 (focus (simp only [go_sem, *]; (try rfl); done))); (focus rfl); simp only [putA])
    | (apply x_unwanted; (focus (simp only [go_sem, *]; (try rfl); done)); (focus rfl); simp only [putA])
    | (apply x_condT; (focus (simp only [go_sem, *]; (try rfl); done)))
    | (apply x_condF; (focus (simp only [go_sem, *]; (try rfl); done)))
    | (apply x_guardS; (focus rfl); (fail_if_success (focus (show _ = some true; (focus (simp only [go_sem, *]; (try rfl); done))))); (focus (simp only [go_sem, *]; (try rfl); done)); all_goals (intro hb; try simp only [Bool.not_eq_true', Bool.not_eq_false'] at hb))
    | (apply x_condS; (focus (simp only [go_sem, *]; (try rfl); done)); all_goals (intro hb; try simp only [Bool.not_eq_true', Bool.not_eq_false'] at hb))
    | apply x_loop | apply x_lp
  (apply f_ret; iterate 7 (focus (simp only [go_sem, *, Tryz.results13]; (try rfl); done)))
  exact h
end Go.Proofs.YtcobfilbmfokoaaGreatDoor
namespace Go.Proofs.YtcobfilbmfokoaaGreatDoor
open Go Go.Fen
set_option linter.unusedSimpArgs false
set_option linter.unusedVariables false
attribute [local irreducible] RunX WP ACall AnyP OpA ProtL
set_option maxRecDepth 8000
open Go.ChangeShapes Go.WideShapes Go.ChangeAt Go.RowKit
theorem own : ownKnob Tryz.prog.godebug = none := by kernel_rfl
theorem laid_mem {P : Program} {W : World} {nm : String} {d : DataW Unit} : ∀ {l : List (String × DataW Unit)} {ps : List MemPlace}, DataW.LaidVars P W l ps → (nm, d) ∈ l →
    ∃ g t cs fuel p, P.globalNamed nm = some g ∧ (P.globals[g]?).map (·.type) = some t ∧ W.var? P nm = some cs ∧ DataW.trod (fun _ => ()) P W 0 (fun _ => true) false fuel t cs.toList = some (d, p) := by
  intro l
  induction l with
  | nil => intro ps _ h; cases h
  | cons x l ih =>
    intro ps h hm
    obtain ⟨nm', d'⟩ := x
    obtain ⟨g, t, cs, fuel, p, q, h1, h2, h3, h4, h5, _⟩ := h
    rcases List.mem_cons.1 hm with e | hm
    · cases e; exact ⟨g, t, cs, fuel, p, h1, h2, h3, h4⟩
    · exact ih h5 hm
def plainLaid : List (String × DataW Unit) := [("math/bits.deBruijn32tab", Rows.laid_math_bits_deBruijn32tab), ("math/bits.deBruijn64tab", Rows.laid_math_bits_deBruijn64tab), ("internal/strconv.uint64pow10", Rows.laid_internal_strconv_uint64pow10), ("unicode/utf8.acceptRanges", Rows.laid_unicode_utf8_acceptRanges), ("strconv.ErrRange", Rows.laid_strconv_ErrRange), ("strconv.ErrSyntax", Rows.laid_strconv_ErrSyntax), ("unicode/utf8.first", Rows.laid_unicode_utf8_first)]
def seatLaid : List (String × DataW Unit) := [("math/bits.deBruijn32tab", Rows.laid_math_bits_deBruijn32tab), ("math/bits.deBruijn64tab", Rows.laid_math_bits_deBruijn64tab), ("internal/strconv.uint64pow10", Rows.laid_internal_strconv_uint64pow10), ("unicode/utf8.acceptRanges", Rows.laid_unicode_utf8_acceptRanges), ("errors.errorType", Rows.laid_errors_errorType), ("strconv.ErrRange", Rows.laid_strconv_ErrRange), ("strconv.ErrSyntax", Rows.laid_strconv_ErrSyntax), ("unicode/utf8.first", Rows.laid_unicode_utf8_first)]
theorem laid_plain : (seatLaid.filter fun x => x.2.handleName?.isNone) = plainLaid := by kernel_rfl
theorem laid_handle : (seatLaid.filter fun x => x.2.handleName?.isSome) = [("errors.errorType", Rows.laid_errors_errorType)] := by kernel_rfl
theorem gPow : Tryz.prog.globalNamed "internal/strconv.uint64pow10" = some 2 := by kernel_rfl
theorem gSyn : Tryz.prog.globalNamed "strconv.ErrSyntax" = some 5 := by kernel_rfl
theorem tab_of {W : World} (h : laidMetH Tryz.prog seatLaid W) : Tab W := by
  have h := (laidMetH_iff.1 h).1
  rw [laid_plain] at h
  obtain ⟨ps, hl, _⟩ := h
  obtain ⟨g, t, cs, fuel, p, h1, h2, h3, h4⟩ := laid_mem (nm := "internal/strconv.uint64pow10") (d := Rows.laid_internal_strconv_uint64pow10) hl (by simp [plainLaid])
  obtain rfl := Option.some.inj (gPow.symm.trans h1)
  obtain rfl := Option.some.inj ((show (Tryz.prog.globals[2]?).map (·.type) = some 158 by kernel_rfl).symm.trans h2)
  have h5 := Lib.cells_of_tab (k := .u64) (zs := Lib.pow10Tab) (un_158) (un_107) (by kernel_rfl) (by kernel_rfl) h4
  unfold Tab Lib.TabIs
  rw [h3, ← h5]
theorem syn_of {W : World} (h : laidMetH Tryz.prog seatLaid W) : Syn W := by
  have h := (laidMetH_iff.1 h).1
  rw [laid_plain] at h
  obtain ⟨ps, hl, _⟩ := h
  obtain ⟨g, t, cs, fuel, p, h1, h2, h3, h4⟩ := laid_mem (nm := "strconv.ErrSyntax") (d := Rows.laid_strconv_ErrSyntax) hl (by simp [plainLaid])
  obtain rfl := Option.some.inj (gSyn.symm.trans h1)
  obtain rfl := Option.some.inj ((show (Tryz.prog.globals[5]?).map (·.type) = some 67 by kernel_rfl).symm.trans h2)
  cases fuel with
  | zero => simp [DataW.trod] at h4
  | succ fuel =>
  simp only [DataW.trod, un_67] at h4
  have hc := World.var?_cell gSyn h3 0
  match hcs : cs.toList, h4 with
  | [.nilIface], _ => exact ⟨.nilIface, by rw [hc, ← Array.getElem?_toList, hcs]; rfl, .inl rfl⟩
  | [.iface u v], _ => exact ⟨.iface u v, by rw [hc, ← Array.getElem?_toList, hcs]; rfl, .inr ⟨u, v, rfl⟩⟩
theorem gErr : Tryz.prog.globalNamed "errors.errorType" = some 0 := by kernel_rfl
theorem gRt : (Tryz.prog.cutTypes.find? (·.1 == "internal/reflectlite.rtype")).map (·.2) = some 119 := by kernel_rfl
theorem gSize : Tryz.prog.types.size = 230 := by kernel_rfl
theorem gRow : ((List.range 230).filter fun t => Tryz.prog.rowNamed t [101, 114, 114, 111, 114]) = [67] := by kernel_rfl
theorem errT_of {W : World} (h : laidMetH Tryz.prog seatLaid W) : ErrT W := by
  have h := (laidMetH_iff.1 h).2
  rw [laid_handle] at h
  obtain ⟨name, u, ty, e1, e2, e3, e4, e5⟩ := h _ (List.mem_singleton.2 rfl)
  have en : name = [101, 114, 114, 111, 114] := (Option.some.inj e1).symm
  subst en
  obtain rfl := Option.some.inj (gRt.symm.trans e2)
  have hm : ty ∈ (List.range 230).filter fun t => Tryz.prog.rowNamed t [101, 114, 114, 111, 114] := List.mem_filter.2 ⟨List.mem_range.2 (by rw [← gSize]; exact e3), e4⟩
  rw [gRow] at hm
  obtain rfl := List.mem_singleton.1 hm
  have hh : typeHandle Tryz.prog 67 = .pointer (some ⟨9, 67, none⟩) := by kernel_rfl
  rw [hh] at e5
  unfold ErrT
  simpa using World.var?_cell gErr e5 0
noncomputable def handWorld (os : Os) : World :=
  let w0 := World.holding Tryz.prog os ⟨#[], #[], []⟩
  { w0 with heap := w0.heap.modify 0 fun
      | .cells _ t frozen => .cells #[.iface 119 (.agg #[.pointer (some ⟨9, 67, none⟩)])] t frozen
      | o => o }
noncomputable def seatWorld (os : Os) : World := (handWorld os).layVars Tryz.prog plainLaid
theorem seatWorld_os (os : Os) : (seatWorld os).os = os := World.layVars_os _ _ _
theorem seatWorld_met (os : Os) (args : Array Value) : laidMetH Tryz.prog seatLaid ((seatWorld os).forCall (fun _ _ => 0) ⟨#[], args, []⟩).memory := by
  refine laidMetH_of_parts ?_ (by rw [laid_handle]; kernel_rfl)
  rw [laid_plain]
  have e1 : (plainLaid.filter fun x => (plainLaid.map (·.1)).contains x.1) = plainLaid := List.filter_eq_self.2 fun x hx => List.contains_iff_mem.2 (List.mem_map.2 ⟨x, hx, rfl⟩)
  have e2 : (plainLaid.filter fun x => !(plainLaid.map (·.1)).contains x.1) = [] := List.filter_eq_nil_iff.2 fun x hx => by rw [List.contains_iff_mem.2 (List.mem_map.2 ⟨x, hx, rfl⟩)]; simp
  have h : laidMet Tryz.prog plainLaid (seatWorld os) := laidMet_layVars (w0 := handWorld os) (plainLaid.map (·.1)) [] (by rw [e1]; rfl) (by rw [e1]; kernel_rfl) (by rw [e1]; kernel_rfl) (by rw [e2]; exact LaidIn.none)
  exact h.of_heap (by simp [World.memory, World.forCall, Input.heap])
theorem laidOut : laidOutB Tryz.prog = true := by kernel_rfl
end Go.Proofs.YtcobfilbmfokoaaGreatDoor
namespace Go.Proofs.YtcobfilbmfokoaaGreatDoor
open Go Go.Fen
set_option linter.unusedSimpArgs false
set_option linter.unusedVariables false
attribute [local irreducible] RunX WP ACall AnyP OpA ProtL
set_option maxRecDepth 8000
theorem bldEx : Go.Proofs.Builder.Extra Tryz.prog Go.Proofs.Tryz.lays105_ren where
  sizeBuilder := by kernel_rfl
  liesBuilder := by kernel_rfl
  t5 := Go.Proofs.Tryz.lays105.t5
  a5 := Go.Proofs.Tryz.lays105.a5
  z5 := Go.Proofs.Tryz.lays105.z5
  v5 := Go.Proofs.Tryz.lays105.v5
  infoByte := by kernel_rfl
  cellsByte := by kernel_rfl
  sizeByte := by kernel_rfl
  neB5 := by decide +kernel
theorem repeatS (w0 : World) (S : List Blk) (s : List UInt8) (n : Nat) (hn : n ≤ 9223372036854775807) (hl : s.length * n ≤ 140737488355328) (R : AOut → List Blk → Prop) (h : R (.ret (.str (Lib.repeatL s n))) S) : ACall Tryz.prog w0 17 [.str s, .int .i64 n] S R := by
  refine ACall.lib (vs := [.string ⟨s.toArray⟩, .int .i64 n]) (v := .str (Lib.repeatL s n)) (c := .string ⟨(Lib.repeatL s n).toArray⟩) (Go.Proofs.enters_of Tryz.func17 (by kernel_rfl) rfl) rfl rfl ?_ h
  intro w hb
  refine (Go.Proofs.Any.strings_Repeat Go.Proofs.Tryz.lays105 bldEx ⟨s.toArray⟩ n w hn (by rw [show (⟨s.toArray⟩ : ByteArray).size = s.length from rfl]; exact hl)).mono ?_
  rintro e w' ⟨rfl, hw⟩
  exact ⟨rfl, hw⟩
theorem nA0 : PrOk ⟨2, 0, 0, []⟩ [107, 105, 108, 108] := ⟨by decide +kernel, by decide +kernel, by decide +kernel, by decide +kernel⟩
theorem nA1 : PrOk ⟨4, 0, 0, []⟩ [110, 101, 120, 116, 45, 112, 97, 110, 101] := ⟨by decide +kernel, by decide +kernel, by decide +kernel, by decide +kernel⟩
theorem nA2 : PrOk ⟨5, 0, 0, []⟩ [115, 119, 97, 112] := ⟨by decide +kernel, by decide +kernel, by decide +kernel, by decide +kernel⟩
theorem nA3 : PrOk ⟨7, 0, 0, []⟩ [122, 111, 111, 109] := ⟨by decide +kernel, by decide +kernel, by decide +kernel, by decide +kernel⟩
theorem nA4 : PrOk ⟨8, 0, 0, []⟩ [101, 118, 101, 110] := ⟨by decide +kernel, by decide +kernel, by decide +kernel, by decide +kernel⟩
theorem nA5 : PrOk ⟨14, 0, 0, []⟩ [110, 101, 120, 116, 45, 119, 105, 110, 100, 111, 119] := ⟨by decide +kernel, by decide +kernel, by decide +kernel, by decide +kernel⟩
theorem nA6 : PrOk ⟨15, 0, 0, []⟩ [112, 114, 101, 118, 105, 111, 117, 115, 45, 119, 105, 110, 100, 111, 119] := ⟨by decide +kernel, by decide +kernel, by decide +kernel, by decide +kernel⟩
theorem nA7 : PrOk ⟨16, 0, 0, []⟩ [100, 101, 116, 97, 99, 104] := ⟨by decide +kernel, by decide +kernel, by decide +kernel, by decide +kernel⟩
theorem nA8 : PrOk ⟨12, 0, 0, []⟩ [110, 101, 119, 45, 119, 105, 110, 100, 111, 119, 32, 34, 34] := ⟨by decide +kernel, by decide +kernel, by decide +kernel, by decide +kernel⟩
theorem nB0 : PrOk ⟨3, 1, 0, []⟩ [115, 101, 108, 101, 99, 116, 32, 100, 111, 119, 110] := ⟨by decide +kernel, by decide +kernel, by decide +kernel, by decide +kernel⟩
theorem nB1 : PrOk ⟨9, 1, 100, []⟩ [115, 99, 114, 111, 108, 108, 32, 102, 111, 114, 119, 97, 114, 100, 32, 49, 48, 48] := ⟨by decide +kernel, by decide +kernel, by decide +kernel, by decide +kernel⟩
theorem nB2 : PrOk ⟨11, 0, 0, [97, 92, 34, 195, 169]⟩ [114, 101, 110, 97, 109, 101, 32, 34, 97, 92, 92, 92, 34, 92, 120, 99, 51, 92, 120, 97, 57, 34] := ⟨by decide +kernel, by decide +kernel, by decide +kernel, by decide +kernel⟩
theorem nB3 : PrOk ⟨10, 0, 0, Lib.repeatL [120] 200⟩ (([115, 101, 110, 100, 32, 34] ++ Lib.repeatL [120] 200) ++ [34]) := ⟨by decide +kernel, by decide +kernel, by decide +kernel, by decide +kernel⟩
theorem nB4 : PrOk ⟨13, 0, 0, []⟩ [119, 105, 110, 100, 111, 119, 32, 48] := ⟨by decide +kernel, by decide +kernel, by decide +kernel, by decide +kernel⟩
theorem nC0 : PaOk [115, 101, 110, 100, 32, 34, 92, 120, 52, 49, 92, 120, 70, 70, 34] ⟨10, 0, 0, [65, 255]⟩ := ⟨by decide +kernel, by decide +kernel⟩
theorem nC1 : PaOk [114, 101, 115, 105, 122, 101, 32, 108, 101, 102, 116, 32, 48, 57, 57] ⟨6, 3, 99, []⟩ := ⟨by decide +kernel, by decide +kernel⟩
theorem nC2 : PaOk [110, 101, 119, 45, 119, 105, 110, 100, 111, 119, 32, 32, 32] ⟨12, 0, 0, []⟩ := ⟨by decide +kernel, by decide +kernel⟩
theorem nD0 : RfOk [115, 101, 110, 100] 6 := ⟨by decide +kernel, by decide +kernel⟩
theorem nD1 : RfOk [114, 101, 110, 97, 109, 101] 6 := ⟨by decide +kernel, by decide +kernel⟩
theorem nD2 : RfOk [115, 112, 108, 105, 116] 6 := ⟨by decide +kernel, by decide +kernel⟩
theorem nD3 : RfOk [115, 112, 108, 105, 116, 32, 117, 112] 6 := ⟨by decide +kernel, by decide +kernel⟩
theorem nD4 : RfOk [115, 101, 108, 101, 99, 116, 32, 117, 112, 32, 100, 111, 119, 110] 6 := ⟨by decide +kernel, by decide +kernel⟩
theorem nD5 : RfOk [114, 101, 115, 105, 122, 101, 32, 117, 112] 6 := ⟨by decide +kernel, by decide +kernel⟩
theorem nD6 : RfOk [114, 101, 115, 105, 122, 101, 32, 53, 32, 117, 112] 6 := ⟨by decide +kernel, by decide +kernel⟩
theorem nD7 : RfOk [115, 101, 110, 100, 32, 34, 92, 110, 34] 6 := ⟨by decide +kernel, by decide +kernel⟩
theorem nD8 : RfOk [115, 101, 110, 100, 32, 34, 92, 120, 52, 34] 6 := ⟨by decide +kernel, by decide +kernel⟩
theorem nD9 : RfOk [115, 101, 110, 100, 32, 34, 97, 34, 98] 6 := ⟨by decide +kernel, by decide +kernel⟩
theorem nD10 : RfOk [115, 101, 110, 100, 32, 34, 195, 34] 6 := ⟨by decide +kernel, by decide +kernel⟩
theorem nD11 : RfOk [119, 105, 110, 100, 111, 119, 32, 120] 6 := ⟨by decide +kernel, by decide +kernel⟩
theorem nE0 : RfOk (([115, 101, 110, 100, 32, 34] ++ Lib.repeatL [120] 200) ++ [120, 34]) 500 := ⟨by decide +kernel, by decide +kernel⟩
theorem nE1 : RfOk [114, 101, 110, 97, 109, 101, 32, 34, 92, 120, 102, 102, 34] 500 := ⟨by decide +kernel, by decide +kernel⟩
theorem nE2 : RfOk [114, 101, 110, 97, 109, 101, 32, 34, 92, 120, 48, 100, 34] 500 := ⟨by decide +kernel, by decide +kernel⟩
theorem nE3 : RfOk (([114, 101, 110, 97, 109, 101, 32, 34] ++ List.take 41 (Lib.repeatL [120] 200)) ++ [34]) 500 := ⟨by decide +kernel, by decide +kernel⟩
theorem nE4 : RfOk [114, 101, 115, 105, 122, 101, 32, 117, 112, 32, 49, 48, 48] 500 := ⟨by decide +kernel, by decide +kernel⟩
theorem nE5 : RfOk [115, 99, 114, 111, 108, 108, 32, 102, 111, 114, 119, 97, 114, 100, 32, 48, 48, 48] 500 := ⟨by decide +kernel, by decide +kernel⟩
theorem nF0 : checkC ⟨0, 0, 0, []⟩ = false := by decide +kernel
theorem nF1 : checkC ⟨17, 0, 0, []⟩ = false := by decide +kernel
theorem nF2 : checkC ⟨2, 0, 0, [120]⟩ = false := by decide +kernel
end Go.Proofs.YtcobfilbmfokoaaGreatDoor
namespace Go.Proofs.YtcobfilbmfokoaaGreatDoor
open Go Go.Fen
set_option linter.unusedSimpArgs false
set_option linter.unusedVariables false
attribute [local irreducible] RunX WP ACall AnyP OpA ProtL
set_option maxRecDepth 8000
set_option maxHeartbeats 64000000 in
theorem knownLaw (w0 : World) (hT : Tab w0) (hPU : PU16 w0) (hE : ErrT w0) (S : List Blk) (R : AOut → List Blk → Prop) (h : R (.ret (.bool true)) S) :
    ACall Tryz.prog w0 7 [] S R := by
  have hwo := works w0 hT hPU hE
  have hpr := Lib.hid (prints w0 hT hPU hE)
  have hpa := Lib.hid (parses w0 hT hPU hE)
  have hrf := Lib.hid (refused w0 hT hPU hE)
  obtain ⟨x1, hx1, l1⟩ : ∃ x1, Lib.repeatL [120] 200 = x1 ∧ x1.length = 200 := ⟨_, rfl, by rw [Lib.repeatL_length]; rfl⟩
  have p1 : ∀ S' (R : AOut → List Blk → Prop), R (.ret (.str x1)) S' → ACall Tryz.prog w0 17 [.str [120], .int .i64 200] S' R := fun S' R h => repeatS w0 S' [120] 200 (by decide) (by decide) R (by rw [hx1]; exact h)
  have t0 : ∀ S' (R : AOut → List Blk → Prop), R (.ret (.int .i64 500)) S' → ACall Tryz.prog w0 11 [.agg [.int .i64 0, .int .i64 0, .int .i64 0, .str []]] S' R := fun S' R h => cCheck w0 S' ⟨0, 0, 0, []⟩ (by decide) R (by rw [nF0]; exact h)
  have t1 : ∀ S' (R : AOut → List Blk → Prop), R (.ret (.int .i64 500)) S' → ACall Tryz.prog w0 11 [.agg [.int .i64 17, .int .i64 0, .int .i64 0, .str []]] S' R := fun S' R h => cCheck w0 S' ⟨17, 0, 0, []⟩ (by decide) R (by rw [nF1]; exact h)
  have t2 : ∀ S' (R : AOut → List Blk → Prop), R (.ret (.int .i64 500)) S' → ACall Tryz.prog w0 11 [.agg [.int .i64 2, .int .i64 0, .int .i64 0, .str [120]]] S' R := fun S' R h => cCheck w0 S' ⟨2, 0, 0, [120]⟩ (by decide) R (by rw [nF2]; exact h)
  have kB := nB3
  have kE := nE0
  have kF := nE3
  rw [hx1] at kB kE kF
  clear hx1
  have Hwo := Lib.hid hwo
  have Hp1 := Lib.hid p1
  have Ht0 := Lib.hid t0
  have Ht1 := Lib.hid t1
  have Ht2 := Lib.hid t2
  have HB := Lib.hid kB
  have HE := Lib.hid kE
  have HF := Lib.hid kF
  have Hl := Lib.hid l1
  clear hwo p1 t0 t1 t2 kB kE kF l1
  clear hT hPU hE
  have a0 := nA0
  have a1 := nA1
  have a2 := nA2
  have a3 := nA3
  have a4 := nA4
  have a5 := nA5
  have a6 := nA6
  have a7 := nA7
  have a8 := nA8
  refine enter Tryz.func7 rfl (by decide +kernel) (by rw [Tryz.ntmps7]; simp) (by rw [Tryz.ntmps7]; decide) (fun hO => ?_); rw [Tryz.ntmps7]
  repeat' first
    | apply x_seq | apply x_skip | apply x_block | apply x_exit | apply x_ret | apply x_ops_nil | apply p_blk | apply p_exit_it | apply p_exit_hit | apply p_ret_it | apply p_ret_blk | apply p_panic_it | apply p_panic_blk | apply p_end
    | (apply p_exit_miss; (focus rfl))
    | (apply x_region; simp only [List.toList_toArray])
    | (apply x_step0; (focus rfl); (focus (simp only [go_sem, *]; (try rfl); done)); (focus rfl); simp only [putA])
    | (apply x_callA []; (focus (simp only [go_sem, *]; (try rfl); done)); (focus rfl); (focus (simp only [go_sem, *]; (try rfl); done)); (focus rfl); (iterate 2 (focus (simp only [go_sem, *]; (try rfl); done))); (first | (apply hpr.out; (focus (simp only [go_sem, *]; (try rfl); done)))); simp only [afterCall, putA])
    | (apply x_panic; (focus (simp only [go_sem, *]; (try rfl); done)); (focus rfl); (focus (simp only [go_sem, *]; (try rfl); done)))
    | (apply x_step; (iterate 2 (focus (simp only [go_sem, *]; (try rfl); done))); (focus rfl); simp only [putA])
    | (apply x_unwanted; (focus (simp only [go_sem, *]; (try rfl); done)); (focus rfl); simp only [putA])
    | (apply x_condT; (focus (simp only [go_sem, *]; (try rfl); done)))
    | (apply x_condF; (focus (simp only [go_sem, *]; (try rfl); done)))
    | (apply x_guardS; (focus rfl); (fail_if_success (focus (show _ = some true; (focus (simp only [go_sem, *]; (try rfl); done))))); (focus (simp only [go_sem, *]; (try rfl); done)); all_goals (intro hb; try simp only [Bool.not_eq_true', Bool.not_eq_false'] at hb))
    | (apply x_condS; (focus (simp only [go_sem, *]; (try rfl); done)); all_goals (intro hb; try simp only [Bool.not_eq_true', Bool.not_eq_false'] at hb))
    | apply x_loop | apply x_lp
    | (apply d_draw; (focus exact mixed); (focus ((simp only [List.size_toArray, List.length_cons, List.length_nil, Nat.reduceAdd]; try rfl); done)))
    | (apply d_done; (focus decide +kernel))
    | ((first | (apply d_take 0; (focus decide +kernel)) | (apply d_take 1; (focus decide +kernel)) | (apply d_take 2; (focus decide +kernel)) | (apply d_take 3; (focus decide +kernel)) | (apply d_take 4; (focus decide +kernel)) | (apply d_take 5; (focus decide +kernel)) | (apply d_take 6; (focus decide +kernel)) | (apply d_take 7; (focus decide +kernel)) | (apply d_take 8; (focus decide +kernel)) | (apply d_take 9; (focus decide +kernel)) | (apply d_take 10; (focus decide +kernel)) | (apply d_take 11; (focus decide +kernel)) | (apply d_take 12; (focus decide +kernel)) | (apply d_take 13; (focus decide +kernel)) | (apply d_take 14; (focus decide +kernel)) | (apply d_take 15; (focus decide +kernel)) | (apply d_take 16; (focus decide +kernel)) | (apply d_take 17; (focus decide +kernel))); (focus (first | exact qds_FPost | exact qds_RPost | exact qds_YB | assumption)); (focus rfl); (iterate 3 (focus (simp only [go_sem, *]; (try rfl); done))); (focus rfl); (focus (simp only [go_sem, *]; (try rfl); done)); simp only [putA])
    | ((first | (apply d_unw 0; (focus decide +kernel)) | (apply d_unw 1; (focus decide +kernel)) | (apply d_unw 2; (focus decide +kernel)) | (apply d_unw 3; (focus decide +kernel)) | (apply d_unw 4; (focus decide +kernel)) | (apply d_unw 5; (focus decide +kernel)) | (apply d_unw 6; (focus decide +kernel)) | (apply d_unw 7; (focus decide +kernel)) | (apply d_unw 8; (focus decide +kernel)) | (apply d_unw 9; (focus decide +kernel)) | (apply d_unw 10; (focus decide +kernel)) | (apply d_unw 11; (focus decide +kernel)) | (apply d_unw 12; (focus decide +kernel)) | (apply d_unw 13; (focus decide +kernel)) | (apply d_unw 14; (focus decide +kernel)) | (apply d_unw 15; (focus decide +kernel)) | (apply d_unw 16; (focus decide +kernel)) | (apply d_unw 17; (focus decide +kernel))); (focus (first | exact qds_FPost | exact qds_RPost | exact qds_YB | assumption)); (focus rfl); (iterate 2 (focus (simp only [go_sem, *]; (try rfl); done))); (focus rfl); simp only [putA])
    | (first | (apply d_one 0; (focus decide +kernel)) | (apply d_one 1; (focus decide +kernel)) | (apply d_one 2; (focus decide +kernel)) | (apply d_one 3; (focus decide +kernel)) | (apply d_one 4; (focus decide +kernel)) | (apply d_one 5; (focus decide +kernel)) | (apply d_one 6; (focus decide +kernel)) | (apply d_one 7; (focus decide +kernel)) | (apply d_one 8; (focus decide +kernel)) | (apply d_one 9; (focus decide +kernel)) | (apply d_one 10; (focus decide +kernel)) | (apply d_one 11; (focus decide +kernel)) | (apply d_one 12; (focus decide +kernel)) | (apply d_one 13; (focus decide +kernel)) | (apply d_one 14; (focus decide +kernel)) | (apply d_one 15; (focus decide +kernel)) | (apply d_one 16; (focus decide +kernel)) | (apply d_one 17; (focus decide +kernel)))
    | (apply o_step; (iterate 3 (focus (simp only [go_sem, *]; (try rfl); done))); (focus rfl); simp only [putA])
    | (apply o_unw; (iterate 2 (focus (simp only [go_sem, *]; (try rfl); done))); (focus rfl); simp only [putA])
    | apply pr_nil | apply pr_same | apply pr_go | apply pl_nil | apply pl_none | (apply pl_skip; (focus decide +kernel)) | (apply pl_one; (focus (simp only [go_sem, *]; (try rfl); done)))
    | (apply o_call []; (iterate 2 (focus (simp only [go_sem, *]; (try rfl); done))); (focus rfl); (focus (simp only [go_sem, *]; (try rfl); done)); (focus rfl); (iterate 2 (focus (simp only [go_sem, *]; (try rfl); done))); (first | (apply hpr.out; (focus (simp only [go_sem, *]; (try rfl); done)))); simp only [afterOp, putA])
  refine x_gen [1000000] ?_
  intro env1 hA
  simp only [agreeL, go_sem] at hA
  have q1_0 := hA
  clear a0 a1 a2 a3 a4 a5 a6 a7 a8
  have p1 := Hp1.out
  repeat' first
    | apply x_seq | apply x_skip | apply x_block | apply x_exit | apply x_ret | apply x_ops_nil | apply p_blk | apply p_exit_it | apply p_exit_hit | apply p_ret_it | apply p_ret_blk | apply p_panic_it | apply p_panic_blk | apply p_end
    | (apply p_exit_miss; (focus rfl))
    | (apply x_region; simp only [List.toList_toArray])
    | (apply x_step0; (focus rfl); (focus (simp only [go_sem, *]; (try rfl); done)); (focus rfl); simp only [putA])
    | (apply x_callA []; (focus (simp only [go_sem, *]; (try rfl); done)); (focus rfl); (focus (simp only [go_sem, *]; (try rfl); done)); (focus rfl); (iterate 2 (focus (simp only [go_sem, *]; (try rfl); done))); (first | (apply p1)); simp only [afterCall, putA])
    | (apply x_panic; (focus (simp only [go_sem, *]; (try rfl); done)); (focus rfl); (focus (simp only [go_sem, *]; (try rfl); done)))
    | (apply x_step; (iterate 2 (focus (simp only [go_sem, *]; (try rfl); done))); (focus rfl); simp only [putA])
    | (apply x_unwanted; (focus (simp only [go_sem, *]; (try rfl); done)); (focus rfl); simp only [putA])
    | (apply x_condT; (focus (simp only [go_sem, *]; (try rfl); done)))
    | (apply x_condF; (focus (simp only [go_sem, *]; (try rfl); done)))
    | (apply x_guardS; (focus rfl); (fail_if_success (focus (show _ = some true; (focus (simp only [go_sem, *]; (try rfl); done))))); (focus (simp only [go_sem, *]; (try rfl); done)); all_goals (intro hb; try simp only [Bool.not_eq_true', Bool.not_eq_false'] at hb))
    | (apply x_condS; (focus (simp only [go_sem, *]; (try rfl); done)); all_goals (intro hb; try simp only [Bool.not_eq_true', Bool.not_eq_false'] at hb))
  refine x_gen [1000000, 4, 27] ?_
  intro env2 hA
  simp only [agreeL, go_sem] at hA
  obtain ⟨q2_0, q2_4, q2_27⟩ := hA
  clear p1
  have b0 := nB0
  have b1 := nB1
  have b2 := nB2
  have b3 := HB.out
  simp only [List.cons_append, List.nil_append] at b3
  have b4 := nB4
  have l1 := Hl.out
  repeat' first
    | apply x_seq | apply x_skip | apply x_block | apply x_exit | apply x_ret | apply x_ops_nil | apply p_blk | apply p_exit_it | apply p_exit_hit | apply p_ret_it | apply p_ret_blk | apply p_panic_it | apply p_panic_blk | apply p_end
    | (apply p_exit_miss; (focus rfl))
    | (apply x_region; simp only [List.toList_toArray])
    | (apply x_step0; (focus rfl); (focus (simp only [go_sem, *, List.length_append, List.length_cons, List.length_nil]; (try rfl); done)); (focus rfl); simp only [putA])
    | (apply x_callA []; (focus (simp only [go_sem, *, List.length_append, List.length_cons, List.length_nil]; (try rfl); done)); (focus rfl); (focus (simp only [go_sem, *, List.length_append, List.length_cons, List.length_nil]; (try rfl); done)); (focus rfl); (iterate 2 (focus (simp only [go_sem, *, List.length_append, List.length_cons, List.length_nil]; (try rfl); done))); (first | (apply hpr.out; (focus (simp only [go_sem, *, List.length_append, List.length_cons, List.length_nil]; (try rfl); done)))); simp only [afterCall, putA])
    | (apply x_panic; (focus (simp only [go_sem, *, List.length_append, List.length_cons, List.length_nil]; (try rfl); done)); (focus rfl); (focus (simp only [go_sem, *, List.length_append, List.length_cons, List.length_nil]; (try rfl); done)))
    | (apply x_step; (iterate 2 (focus (simp only [go_sem, *, List.length_append, List.length_cons, List.length_nil]; (try rfl); done))); (focus rfl); simp only [putA])
    | (apply x_unwanted; (focus (simp only [go_sem, *, List.length_append, List.length_cons, List.length_nil]; (try rfl); done)); (focus rfl); simp only [putA])
    | (apply x_condT; (focus (simp only [go_sem, *, List.length_append, List.length_cons, List.length_nil]; (try rfl); done)))
    | (apply x_condF; (focus (simp only [go_sem, *, List.length_append, List.length_cons, List.length_nil]; (try rfl); done)))
    | (apply x_guardS; (focus rfl); (fail_if_success (focus (show _ = some true; (focus (simp only [go_sem, *, List.length_append, List.length_cons, List.length_nil]; (try rfl); done))))); (focus (simp only [go_sem, *, List.length_append, List.length_cons, List.length_nil]; (try rfl); done)); all_goals (intro hb; try simp only [Bool.not_eq_true', Bool.not_eq_false'] at hb))
    | (apply x_condS; (focus (simp only [go_sem, *, List.length_append, List.length_cons, List.length_nil]; (try rfl); done)); all_goals (intro hb; try simp only [Bool.not_eq_true', Bool.not_eq_false'] at hb))
  refine x_gen [1000000, 4, 5, 49] ?_
  intro env3 hA
  simp only [agreeL, go_sem] at hA
  obtain ⟨q3_0, q3_4, q3_5, q3_49⟩ := hA
  clear b0 b1 b2 b3 b4
  have c0 := nC0
  have c1 := nC1
  have c2 := nC2
  repeat' first
    | apply x_seq | apply x_skip | apply x_block | apply x_exit | apply x_ret | apply x_ops_nil | apply p_blk | apply p_exit_it | apply p_exit_hit | apply p_ret_it | apply p_ret_blk | apply p_panic_it | apply p_panic_blk | apply p_end
    | (apply p_exit_miss; (focus rfl))
    | (apply x_region; simp only [List.toList_toArray])
    | (apply x_step0; (focus rfl); (focus (simp only [go_sem, *]; (try rfl); done)); (focus rfl); simp only [putA])
    | (apply x_callA []; (focus (simp only [go_sem, *]; (try rfl); done)); (focus rfl); (focus (simp only [go_sem, *]; (try rfl); done)); (focus rfl); (iterate 2 (focus (simp only [go_sem, *]; (try rfl); done))); (first | (apply hpa.out; (focus (simp only [go_sem, *]; (try rfl); done)))); simp only [afterCall, putA])
    | (apply x_panic; (focus (simp only [go_sem, *]; (try rfl); done)); (focus rfl); (focus (simp only [go_sem, *]; (try rfl); done)))
    | (apply x_step; (iterate 2 (focus (simp only [go_sem, *]; (try rfl); done))); (focus rfl); simp only [putA])
    | (apply x_unwanted; (focus (simp only [go_sem, *]; (try rfl); done)); (focus rfl); simp only [putA])
    | (apply x_condT; (focus (simp only [go_sem, *]; (try rfl); done)))
    | (apply x_condF; (focus (simp only [go_sem, *]; (try rfl); done)))
    | (apply x_guardS; (focus rfl); (fail_if_success (focus (show _ = some true; (focus (simp only [go_sem, *]; (try rfl); done))))); (focus (simp only [go_sem, *]; (try rfl); done)); all_goals (intro hb; try simp only [Bool.not_eq_true', Bool.not_eq_false'] at hb))
    | (apply x_condS; (focus (simp only [go_sem, *]; (try rfl); done)); all_goals (intro hb; try simp only [Bool.not_eq_true', Bool.not_eq_false'] at hb))
  refine x_gen [1000000, 4, 5, 6, 59, 60, 63] ?_
  intro env4 hA
  simp only [agreeL, go_sem] at hA
  obtain ⟨q4_0, q4_4, q4_5, q4_6, q4_59, q4_60, q4_63⟩ := hA
  clear c0 c1 c2
  have d0 := nD0
  have d1 := nD1
  have d2 := nD2
  have d3 := nD3
  have d4 := nD4
  have d5 := nD5
  have d6 := nD6
  have d7 := nD7
  have d8 := nD8
  have d9 := nD9
  have d10 := nD10
  have d11 := nD11
  clear l1
  repeat' first
    | apply x_seq | apply x_skip | apply x_block | apply x_exit | apply x_ret | apply x_ops_nil | apply p_blk | apply p_exit_it | apply p_exit_hit | apply p_ret_it | apply p_ret_blk | apply p_panic_it | apply p_panic_blk | apply p_end
    | (apply p_exit_miss; (focus rfl))
    | (apply x_region; simp only [List.toList_toArray])
    | (apply x_step0; (focus rfl); (focus (simp only [go_sem, *]; (try rfl); done)); (focus rfl); simp only [putA])
    | (apply x_callA []; (focus (simp only [go_sem, *]; (try rfl); done)); (focus rfl); (focus (simp only [go_sem, *]; (try rfl); done)); (focus rfl); (iterate 2 (focus (simp only [go_sem, *]; (try rfl); done))); (first | (apply hrf.out; (focus (simp only [go_sem, *]; (try rfl); done)))); simp only [afterCall, putA])
    | (apply x_panic; (focus (simp only [go_sem, *]; (try rfl); done)); (focus rfl); (focus (simp only [go_sem, *]; (try rfl); done)))
    | (apply x_step; (iterate 2 (focus (simp only [go_sem, *]; (try rfl); done))); (focus rfl); simp only [putA])
    | (apply x_unwanted; (focus (simp only [go_sem, *]; (try rfl); done)); (focus rfl); simp only [putA])
    | (apply x_condT; (focus (simp only [go_sem, *]; (try rfl); done)))
    | (apply x_condF; (focus (simp only [go_sem, *]; (try rfl); done)))
    | (apply x_guardS; (focus rfl); (fail_if_success (focus (show _ = some true; (focus (simp only [go_sem, *]; (try rfl); done))))); (focus (simp only [go_sem, *]; (try rfl); done)); all_goals (intro hb; try simp only [Bool.not_eq_true', Bool.not_eq_false'] at hb))
    | (apply x_condS; (focus (simp only [go_sem, *]; (try rfl); done)); all_goals (intro hb; try simp only [Bool.not_eq_true', Bool.not_eq_false'] at hb))
    | apply x_loop | apply x_lp
  refine x_gen [1000000, 4, 5, 6, 67] ?_
  intro env5 hA
  simp only [agreeL, go_sem] at hA
  obtain ⟨q5_0, q5_4, q5_5, q5_6, q5_67⟩ := hA
  clear d0 d1 d2 d3 d4 d5 d6 d7 d8 d9 d10 d11
  have l1 := Hl.out
  have e0 := HE.out
  have e3 := HF.out
  obtain ⟨x2, hq, l2⟩ : ∃ x2, List.take 41 x1 = x2 ∧ x2.length = 41 := ⟨_, rfl, by rw [List.length_take, l1]; rfl⟩
  rw [hq] at e3
  simp only [List.cons_append, List.nil_append] at e0 e3
  have e1 := nE1
  have e2 := nE2
  have e4 := nE4
  have e5 := nE5
  repeat' first
    | apply x_seq | apply x_skip | apply x_block | apply x_exit | apply x_ret | apply x_ops_nil | apply p_blk | apply p_exit_it | apply p_exit_hit | apply p_ret_it | apply p_ret_blk | apply p_panic_it | apply p_panic_blk | apply p_end
    | (apply p_exit_miss; (focus rfl))
    | (apply x_region; simp only [List.toList_toArray])
    | (apply x_step0; (focus rfl); (focus (simp only [go_sem, *, List.length_append, List.length_cons, List.length_nil]; (try rfl); done)); (focus rfl); simp only [putA])
    | (apply x_callA []; (focus (simp only [go_sem, *, List.length_append, List.length_cons, List.length_nil]; (try rfl); done)); (focus rfl); (focus (simp only [go_sem, *, List.length_append, List.length_cons, List.length_nil]; (try rfl); done)); (focus rfl); (iterate 2 (focus (simp only [go_sem, *, List.length_append, List.length_cons, List.length_nil]; (try rfl); done))); (first | (apply hrf.out; (focus (simp only [go_sem, *, List.length_append, List.length_cons, List.length_nil]; (try rfl); done)))); simp only [afterCall, putA])
    | (apply x_panic; (focus (simp only [go_sem, *, List.length_append, List.length_cons, List.length_nil]; (try rfl); done)); (focus rfl); (focus (simp only [go_sem, *, List.length_append, List.length_cons, List.length_nil]; (try rfl); done)))
    | (apply x_step; (iterate 2 (focus (simp only [go_sem, *, List.length_append, List.length_cons, List.length_nil]; (try rfl); done))); (focus rfl); simp only [putA])
    | (apply x_unwanted; (focus (simp only [go_sem, *, List.length_append, List.length_cons, List.length_nil]; (try rfl); done)); (focus rfl); simp only [putA])
    | (apply x_condT; (focus (simp only [go_sem, *, List.length_append, List.length_cons, List.length_nil]; (try rfl); done)))
    | (apply x_condF; (focus (simp only [go_sem, *, List.length_append, List.length_cons, List.length_nil]; (try rfl); done)))
    | (apply x_guardS; (focus rfl); (fail_if_success (focus (show _ = some true; (focus (simp only [go_sem, *, List.length_append, List.length_cons, List.length_nil]; (try rfl); done))))); (focus (simp only [go_sem, *, List.length_append, List.length_cons, List.length_nil]; (try rfl); done)); all_goals (intro hb; try simp only [Bool.not_eq_true', Bool.not_eq_false'] at hb))
    | (apply x_condS; (focus (simp only [go_sem, *, List.length_append, List.length_cons, List.length_nil]; (try rfl); done)); all_goals (intro hb; try simp only [Bool.not_eq_true', Bool.not_eq_false'] at hb))
    | apply x_loop | apply x_lp
  refine x_gen [1000000, 5, 6, 82] ?_
  intro env6 hA
  simp only [agreeL, go_sem] at hA
  obtain ⟨q6_0, q6_5, q6_6, q6_82⟩ := hA
  clear e0 e1 e2 e3 e4 e5 l1 l2 hq
  have wo := Hwo.out
  have t0 := Ht0.out
  have t1 := Ht1.out
  have t2 := Ht2.out
  repeat' first
    | apply x_seq | apply x_skip | apply x_block | apply x_exit | apply x_ret | apply x_ops_nil | apply p_blk | apply p_exit_it | apply p_exit_hit | apply p_ret_it | apply p_ret_blk | apply p_panic_it | apply p_panic_blk | apply p_end
    | (apply p_exit_miss; (focus rfl))
    | (apply x_region; simp only [List.toList_toArray])
    | (apply x_step0; (focus rfl); (focus (simp only [go_sem, *]; (try rfl); done)); (focus rfl); simp only [putA])
    | (apply x_callA []; (focus (simp only [go_sem, *]; (try rfl); done)); (focus rfl); (focus (simp only [go_sem, *]; (try rfl); done)); (focus rfl); (iterate 2 (focus (simp only [go_sem, *]; (try rfl); done))); (first | (apply wo) | (apply t0) | (apply t1) | (apply t2)); simp only [afterCall, putA])
    | (apply x_panic; (focus (simp only [go_sem, *]; (try rfl); done)); (focus rfl); (focus (simp only [go_sem, *]; (try rfl); done)))
    | (apply x_step; (iterate 2 (focus (simp only [go_sem, *]; (try rfl); done))); (focus rfl); simp only [putA])
    | (apply x_unwanted; (focus (simp only [go_sem, *]; (try rfl); done)); (focus rfl); simp only [putA])
    | (apply x_condT; (focus (simp only [go_sem, *]; (try rfl); done)))
    | (apply x_condF; (focus (simp only [go_sem, *]; (try rfl); done)))
    | (apply x_guardS; (focus rfl); (fail_if_success (focus (show _ = some true; (focus (simp only [go_sem, *]; (try rfl); done))))); (focus (simp only [go_sem, *]; (try rfl); done)); all_goals (intro hb; try simp only [Bool.not_eq_true', Bool.not_eq_false'] at hb))
    | (apply x_condS; (focus (simp only [go_sem, *]; (try rfl); done)); all_goals (intro hb; try simp only [Bool.not_eq_true', Bool.not_eq_false'] at hb))
  (apply f_ret; iterate 7 (focus (simp only [go_sem, *, Tryz.results7]; (try rfl); done)))
  exact h
end Go.Proofs.YtcobfilbmfokoaaGreatDoor
namespace Go.Proofs.YtcobfilbmfokoaaGreatDoor
open Go Go.Fen
set_option linter.unusedSimpArgs false
set_option linter.unusedVariables false
attribute [local irreducible] RunX WP ACall AnyP OpA ProtL
set_option maxRecDepth 8000
namespace CommandKnown
theorem contract (H : Type) (enc : TypeId × Value → H) (W : World) (base : Nat) (args : Array Value) (ds gs : List (DataW H)) (before : List MemPlace)
    (hval : ∀ (j : Nat) t v, Tryz.f7.params[j]? = some t → args[j]? = some v → Value.okWide Tryz.prog W .any base t v)
    (hW : DataW.Whole enc Tryz.prog Tryz.f7.params.toList Rows.commandKnownSpec.vars false W args.toList ds gs before) (hL : laidMetH Tryz.prog seatLaid W) :
    Calls Tryz.prog 7 args W fun e W' => ∃ v, e = .returned v ∧ Rows.commandKnownSpec.post enc Tryz.prog Tryz.f7 false true false false W args v W' := by
  refine law_close (n := 20) (tb := 4) [] laidOut ?_ (by rw [Tryz.params7]; kernel_rfl) (by kernel_rfl) un_4 rfl ?_ hW hval ?_
  · rw [Tryz.params7]
    have : ([].all fun t => Tryz.prog.readableRec t && decide (t < Tryz.prog.types.size)) = true := by kernel_rfl
    intro t ht
    simpa using List.all_eq_true.1 this t (by simpa using ht)
  · intro h
    rw [Tryz.params7] at h
    match ds, h with
    | [], _ => rfl
  · intro avs ha
    have e1 := ArgsH.nil' ha
    rw [e1]
    exact knownLaw W (tab_of hL) (parseUint W (syn_of hL)) (errT_of hL) [] _ rfl
def wit : Array Value := #[]
set_option maxRecDepth 100000 in
theorem lifted (os : Os) (started : os.Started) (H : Type) (enc : TypeId × Value → H) :
    ReturnsInHanded {} Tryz.checked os 7 .any (fun w args => (Rows.commandKnownSpec.pre enc Tryz.prog Tryz.f7 Rows.commandKnownRow.domain false w args ∧ laidMetH Tryz.prog seatLaid w) ∧ sizedMet enc Tryz.prog Tryz.f7 (OpenSpec.ofChange Rows.commandKnownSpec) false w args)
      (Rows.commandKnownSpec.post enc Tryz.prog Tryz.f7 false true false false) := by
  refine returnsInHanded_of_change_and (C := Tryz.checked) (X := fun w _ => laidMetH Tryz.prog seatLaid w) (fun _ _ _ hh h => h.of_heap hh) own started (by kernel_rfl) Tryz.func7
    (ChangeSpec.witness_shaped (enc := enc) (C := Tryz.checked) (os := os) (X := fun w _ => laidMetH Tryz.prog seatLaid w) false (seatWorld os) wit 8 (seatWorld_os _)
      (World.shaped_of_ZipB (by kernel_rfl) (by kernel_rfl)) (by kernel_rfl) (by kernel_rfl) (by kernel_rfl)
      (seatWorld_met os _)) ?_
  intro W base args ds gs before hval hW _ _ hL _
  exact contract H enc W base args ds gs before hval hW hL
theorem said : Rows.CommandKnownSaid :=
  OpenClaim.holds_of_wide 7 Tryz.f7 rfl rfl rfl rfl rfl rfl rfl ⟨rfl, rfl, rfl, rfl, rfl⟩ rfl rfl rfl rfl rfl (by kernel_rfl) Tryz.func7 (by kernel_rfl)
    (of_decide_eq_true (by kernel_rfl)) (by unfold Func.isWrapper; first | (rw [if_pos (by decide +kernel)]; kernel_rfl) | (rw [if_neg (by decide +kernel)]; exact ⟨rfl, rfl⟩))
    (fun os started H enc _ => lifted os started H enc)
theorem plainF (f : FuncId) (fn : Func) (hf : Tryz.pinned.checked.prog.funcNamed "fenestra/fenestralaw40.CommandKnown" = some f) (hfn : Tryz.pinned.checked.prog.funcs[f]? = some fn) :
    true = Tryz.pinned.checked.prog.looks [] ∧ ∀ (j : Nat) t, fn.params[j]? = some t → Tryz.pinned.checked.prog.wantsStandIn t = false := by
  obtain rfl : f = 7 := Option.some.inj ((show Tryz.prog.funcNamed "fenestra/fenestralaw40.CommandKnown" = some 7 by kernel_rfl).symm.trans hf) |>.symm
  obtain rfl : fn = Tryz.f7 := (Option.some.inj (Tryz.func7.symm.trans hfn)).symm
  refine ⟨by kernel_rfl, fun j t ht => ?_⟩
  rw [Tryz.params7] at ht
  have hm : t ∈ [] := by simpa using Array.mem_of_getElem? ht
  have hall : ([].all fun u => !Tryz.prog.wantsStandIn u) = true := by kernel_rfl
  exact (show Tryz.prog.wantsStandIn t = false by simpa using List.all_eq_true.1 hall t hm)
theorem card : Rows.CommandKnownCardSaid :=
  Claim7.holds_tied_plain_at .later [] _ _ _ _ said (fun _ h => by cases h) (by kernel_rfl) (fun _ h => by cases h) commandKnown_row_tie rfl ⟨rfl, rfl⟩ (by kernel_rfl) rfl plainF (by kernel_rfl)
end CommandKnown
end Go.Proofs.YtcobfilbmfokoaaGreatDoor
